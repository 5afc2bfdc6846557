/- A part of the proof; nothing in it is assumed. -/
import Derived.Test.YtpiplnfjodahpaaGreatDoorMFitsP1
import Derived.Test.YtpiplnfjodahpaaGreatDoorProg
import Derived.Shelf.Strings.Split
import Init
import Derived.Shelf.Strings.OnBuilder
import Derived.Lib.AppendZeros

set_option linter.unusedSimpArgs false
set_option linter.unusedVariables false
set_option linter.defProp false
set_option maxHeartbeats 4000000
set_option maxRecDepth 100000
open And renaming intro→Qa
open Option.some renaming injEq→Qb,inj→QG
open List renaming getElem?_eq_getElem→Qc,getElem?_cons_zero→Qg,length_cons→Qh,length_nil→Qk,getElem?_eq_some_iff→Qq,mem_of_getElem?→Qr,all_eq_true→Qt,take_succ_cons→Qu,length_map→Qy,take_zero→Qz,drop_zero→QB,map_congr_left→QD,drop_succ_cons→QE,suffix_cons→QI,map_map→QJ,getElem?_take_of_lt→QK,getElem?_cons_succ→QM,getElem?_map→QN,head?_cons→QP,findIdx?_eq_some_iff_getElem→QT,getElem?_append_left→QU,map_nil→QV,getElem_of_mem→QW,mem_map→QZ,nil_append→Q_,map_cons→Q0,mem_cons_of_mem→Q1,getElem?_append_right→Q2,drop_eq_getElem_cons→Q4,mem_cons_self→Q5,length_append→Q6,replicate→Q7,take_of_length_le→Q9,take_succ_eq_append_getElem→Zb,append_assoc→Zc,cons_append→Zd,getElem_mem→Ze,count_eq_zero_of_not_mem→Zf,length_take_le→Zg,all_nil→Zi,findIdx?_eq_none_iff→Zl,mem_cons→Zm,length_eq_zero_iff→Zo,take_length→Zp,suffix_refl→Zq,all_append→Zs,length_set→Zt,getElem?_take→Zw,getD→Zy,length_drop→ZA,map_id→ZB,drop_drop→ZE,all_cons→ZI,map_take→ZJ,getLast?→ZK,any_map→ZN,map→ZP,length→ZQ
open Nat renaming reduceEqDiff→Qd,reduceAdd→Qe,zero_add→Qm,zero_ne_one→Qp,succ_ne_zero→Qv,sub_zero→Qw,zero_le→Qx,le_refl→QA,le_of_ble_eq_true→QH,reduceLT→QL,one_ne_zero→QQ,le_trans→QR,reduceLeDiff→QY,add_zero→Q8,lt_of_lt_of_le→Zj,land→Zr,eq_zero_or_pos→Zu,add_sub_cancel→Zv,le_max_right→Zz
open Go.Proofs.Tryz renaming prog→Qf
open Option renaming bind_some→Qi,map_eq_some_iff→Ql,isSome_some→Qo,bind_eq_some_iff→QC,map_some→QO
open Int renaming toNat_natCast→Qj,eq_ofNat_of_zero_le→QX,cast_ofNat_Int→Zk,lt_irrefl→Zn,le_refl→ZC,reduceLT→ZO
open List.cons renaming injEq→Qn
open Prod.mk renaming injEq→Qs
open Array renaming getElem?_eq_some_iff→QF,getD_eq_getD_getElem?→Zh,size_append→Zx
open Bool renaming false_eq_true→QS,and_eq_true→Q3,false_and→Za,not_false→ZD,and_false→ZF,true_and→ZG,not_true→ZH,false_or→ZL,or_false→ZM
open Prod renaming ext→ZR
open Go.Proofs.Tryz
noncomputable section
namespace Go.Vd
open Go.RowKit
section
variable{S:G8}{s:Nat->D}{m:Ha}{fr:Id}{K:D->Hf->Prop}
def aWh{x:Hd}:AA S s m fr (.mv x) K=Hq (some (x.ev s)) (λd=>K d []) .mk:=by simp[AA,Ax,Hq]
def aAP:D->D->D->(K:D->Hf->Prop)->Tag K->Prop
 | .bool t,a,b,K,_=>OT (t=true) (K a []) (K b []) .mk
 |_,_,_,_,_=>False
def jC{t:Bool}{a b:D}{g:Tag K}:aAP (.bool t) a b K g=OT (t=true) (K a []) (K b []) .mk:=rfl
def aNK{c a b:Hd}:AA S s m fr (.pick c a b) K=aAP (c.ev s) (a.ev s) (b.ev s) K .mk:=by
 simp only[AA,Ax];unfold aAP;cases c.ev s<;>simp only[AS];rename_i t;cases t<;>simp[Hq,OT]
def aFQ{zs:List D}:AA S s m fr (.alloc zs) K=Hq (some fr) (λfr=>K (.ptr fr 0) [(fr,0,zs)]) .mk:=by simp[AA,Ax,Hq]
def aRj{x:Hd}:AA S s m fr (.box x) K=Hq (some fr) (λfr=>Hq (some (x.ev s)) (λd=>Au (d.data=true) (K (.ptr fr 0) [(fr,0,d.cells)]) .mk) .mk) .mk:=by
 simp only[AA,Ax];rw[EB,A6,A6,A6]
def aFP{zs:List D}{z:List (Nat×Nat×Hd)}:AA S s m fr (.build zs z) K=Hq (Cg zs (z.map λp=>(p.1,p.2.1,p.2.2.ev s))) (λcs=>K (.agg cs) []) .mk:=by
 simp_all [AA,Ax,CE]
def zK{e sz:Nat}{z:List Hd}:AA S s m fr (.bslice e sz z) K=Hq (some fr) (λfr=>Hq (some (z.map λp=>p.ev s)) (λds=>Au ((ds.all λd=>d.data&&d.cells.length==sz&&d.un.calm)=true) (K (.slice false fr (ds.map D.un)) [(fr,0,[.tok (e+1)])]) .mk) .mk) .mk:=by
 simp only[AA,Ax];rw[EB,A6,A6,A6,List.all_map,QJ];rfl
def Rh:Option Nat->D->(m:Ha)->(K:D->Hf->Prop)->Tag (m,K)->Prop
 |none,.ptr i o,m,K,_=>Hq (m i o) (λd=>K d []) .mk
 |some n,.ptr i o,m,K,_=>Hq (Ag m i o n) (λds=>K (.agg ds) []) .mk
 |none,.eptr ds,m,K,_=>Hq ds.head? (λd=>K d []) .mk
 |some n,.eptr ds,m,K,_=>Au (n<=ds.length) (K (.agg (ds.take n)) []) .mk
 |_,_,_,_,_=>False
def uT{i:Id}{o:Nat}{g:Tag (m,K)}:Rh none (.ptr i o) m K g=Hq (m i o) (λd=>K d []) .mk:=rfl
def jW{i:Id}{o n:Nat}{g:Tag (m,K)}:Rh (some n) (.ptr i o) m K g=Hq (Ag m i o n) (λds=>K (.agg ds) []) .mk:=rfl
def Rg{ds:List D}{g:Tag (m,K)}:Rh none (.eptr ds) m K g=Hq ds.head? (λd=>K d []) .mk:=rfl
def OC{ds:List D}{n:Nat}{g:Tag (m,K)}:Rh (some n) (.eptr ds) m K g=Au (n<=ds.length) (K (.agg (ds.take n)) []) .mk:=rfl
def aNP{k:Option Nat}{x:Hd}:AA S s m fr (.load k x) K=Rh k (x.ev s) m K .mk:=by
 simp only[AA,Ax];unfold Rh;cases x.ev s<;>cases k<;>simp only[AS,CE,FS]
def iP(n:Nat):D->D->(m:Ha)->(K:D->Hf->Prop)->Tag (m,K)->Prop
 | .ptr i o,d,m,K,_=>Au (d.data=true∧d.cells.length=n∧(Ag m i o n).isSome=true) (K .junk [(i,o,d.cells)]) .mk
 |_,_,_,_,_=>False
def iO{n:Nat}{i:Id}{o:Nat}{d:D}{g:Tag (m,K)}:iP n (.ptr i o) d m K g=Au (d.data=true∧d.cells.length=n∧(Ag m i o n).isSome=true) (K .junk [(i,o,d.cells)]) .mk:=rfl
def aFI{n:Nat}{x v:Hd}:AA S s m fr (.store n x v) K=iP n (x.ev s) (v.ev s) m K .mk:=by
 simp only[AA,Ax];unfold iP;cases x.ev s<;>simp only[AS,FS]
def Lt:D->(K:D->Hf->Prop)->Tag K->Prop
 | .ptr i o,K,_=>K (.ptr i o) []
 | .eptr ds,K,_=>K (.eptr ds) []
 | .fn f cs,K,_=>K (.fn f cs) []
 |_,_,_=>False
def bX{i:Id}{o:Nat}{g:Tag K}:Lt (.ptr i o) K g=K (.ptr i o) []:=rfl
def UZ{ds:List D}{g:Tag K}:Lt (.eptr ds) K g=K (.eptr ds) []:=rfl
def jL{f:FuncId}{cs:List D}{g:Tag K}:Lt (.fn f cs) K g=K (.fn f cs) []:=rfl
def zJ{x:Hd}:AA S s m fr (.nilchk x) K=Lt (x.ev s) K .mk:=by
 simp only[AA,Ax];unfold Lt;cases x.ev s<;>simp[AS,A6]
def jA(fr:Id):D->(K:D->Hf->Prop)->Tag K->Prop
 | .str b,K,_=>K (.itp fr) [(fr,1,[.it b 0])]
 |_,_,_=>False
def iZ{b:List UInt8}{g:Tag K}:jA fr (.str b) K g=K (.itp fr) [(fr,1,[.it b 0])]:=rfl
def aFJ{x:Hd}:AA S s m fr (.range x) K=jA fr (x.ev s) K .mk:=by
 simp only[AA,Ax];unfold jA;cases x.ev s<;>simp[AS,A6]
def oZ(i:Id):D->(K:D->Hf->Prop)->Tag K->Prop
 | .it b z,K,_=>OT (z<b.length) (K (.tup [.bool true,.int .i64 (z:Nat),.int .i32 (Utf8.decode ⟨b.toArray⟩ z).1]) [(i,1,[.it b (z+(Utf8.decode ⟨b.toArray⟩ z).2)])]) (K (.tup [.bool false]) []) .mk
 |_,_,_=>False
def aA4{i:Id}{b:List UInt8}{z:Nat}{g:Tag K}:oZ i (.it b z) K g=OT (z<b.length) (K (.tup [.bool true,.int .i64 (z:Nat),.int .i32 (Utf8.decode ⟨b.toArray⟩ z).1]) [(i,1,[.it b (z+(Utf8.decode ⟨b.toArray⟩ z).2)])]) (K (.tup [.bool false]) []) .mk:=rfl
def aA3:D->(m:Ha)->(K:D->Hf->Prop)->Tag (m,K)->Prop
 | .itp i,m,K,_=>Hq (m i 1) (λx=>oZ i x K .mk) .mk
 |_,_,_,_=>False
def uM{i:Id}{g:Tag (m,K)}:aA3 (.itp i) m K g=Hq (m i 1) (λx=>oZ i x K .mk) .mk:=rfl
def aNL{x:Hd}:AA S s m fr (.next x) K=aA3 (x.ev s) m K .mk:=by
 simp only[AA,Ax];unfold aA3;cases x.ev s<;>try (simp only[AS];done)
 rename_i i;simp only;cases m i 1 with
 |none=>simp only[AS]
 |some d=>
  simp only[A6];unfold oZ;cases d<;>simp only[AS];rename_i b z;rw[aJi,A6,A6]
def aRk{op:BinOp}{x y:Hd}:AA S s m fr (.bin op x y) K=Hq (AQ op (x.ev s) (y.ev s)) (λd=>K d []) .mk:=X0
def aWg{op:UnOp}{x:Hd}:AA S s m fr (.un op x) K=Hq (vP op (x.ev s)) (λd=>K d []) .mk:=X0
def aH5(ne:Bool):D->D->Option D
 | .bool a,.bool b=>some (.bool ((a==b)!=ne))
 |_,_=>none
def aQa{a b:Bool}:aH5 false (.bool a) (.bool b)=some (.bool (decide (a=b))):=by cases a<;>cases b<;>rfl
def aP9{a b:Bool}:aH5 true (.bool a) (.bool b)=some (.bool (decide (a≠b))):=by cases a<;>cases b<;>rfl
def aRl{ne:Bool}{x y:Hd}:AA S s m fr (.beq ne x y) K=Hq (aH5 ne (x.ev s) (y.ev s)) (λd=>K d []) .mk:=by
 simp only[AA,Ax];unfold aH5;cases x.ev s<;>cases y.ev s<;>simp[AS,A6]
def aOh(ne:Bool)(a:List (Nat×Nat)):D->D->Option D
 | .agg xs,.agg ys=>(Bi xs ys a).map λb=> .bool (b !=ne)
 |_,_=>none
def PT{ne:Bool}{a:List (Nat×Nat)}{xs ys:List D}:aOh ne a (.agg xs) (.agg ys)=(Bi xs ys a).map λb=> .bool (b !=ne):=rfl
def aRd{ne:Bool}{a:List (Nat×Nat)}{x y:Hd}:AA S s m fr (.seq ne a x y) K=Hq (aOh ne a (x.ev s) (y.ev s)) (λd=>K d []) .mk:=by
 simp only[AA,Ax];unfold aOh;cases x.ev s<;>cases y.ev s<;>simp[AS,CE]
def aFK{ne:Bool}{k:Nat}{x y:Hd}:AA S s m fr (.nileq ne k x y) K=Hq (MI k (x.ev s) (y.ev s)) (λb=>K (.bool (b !=ne)) []) .mk:=X0
def aDA(k:IntKind):D->Option D
 | .int _ n=>some (.int k (k.wrap n))
 |_=>none
def wS{k w:IntKind}{n:Int}:aDA k (.int w n)=some (.int k (k.wrap n)):=rfl
def aNV{k:IntKind}{x:Hd}:AA S s m fr (.conv k x) K=Hq (aDA k (x.ev s)) (λd=>K d []) .mk:=by
 simp only[AA,Ax];unfold aDA;cases x.ev s<;>simp[AS,A6]
def aOj:D->Option D
 | .str b=>some (.str b)
 |_=>none
def aAn{b:List UInt8}:aOj (.str b)=some (.str b):=rfl
def aRe{x:Hd}:AA S s m fr (.s2s x) K=Hq (aOj (x.ev s)) (λd=>K d []) .mk:=by
 simp only[AA,Ax];unfold aOj;cases x.ev s<;>simp[AS,A6]
def aOk:D->Option D
 | .str b=>some (.slice false [] (AH b))
 |_=>none
def aAo{b:List UInt8}:aOk (.str b)=some (.slice false [] (AH b)):=rfl
def aRf{x:Hd}:AA S s m fr (.s2b x) K=Hq (aOk (x.ev s)) (λd=>K d []) .mk:=by
 simp only[AA,Ax];unfold aOk;cases x.ev s<;>simp[AS,A6]
def aH7:D->Option D
 | .slice _ _ xs=>(BG xs).map .str
 |_=>none
def mF{nl:Bool}{t:Id}{xs:List D}:aH7 (.slice nl t xs)=(BG xs).map .str:=rfl
def aRm{x:Hd}:AA S s m fr (.b2s x) K=Hq (aH7 (x.ev s)) (λd=>K d []) .mk:=by
 simp only[AA,Ax];unfold aH7;cases x.ev s<;>simp[AS,CE]
def Fg(off:Nat):D->Option D
 | .ptr i o=>some (.ptr i (o+off))
 | .eptr ds=>if off<=ds.length then some (.eptr (ds.drop off))else none
 |_=>none
def kX{off:Nat}{i:Id}{o:Nat}:Fg off (.ptr i o)=some (.ptr i (o+off)):=rfl
def eA{off:Nat}{ds:List D}:Fg off (.eptr ds)=if off<=ds.length then some (.eptr (ds.drop off))else none:=rfl
def aFO{off:Nat}{x:Hd}:AA S s m fr (.faddr off x) K=Hq (Fg off (x.ev s)) (λd=>K d []) .mk:=by
 simp only[AA,Ax];unfold Fg;cases x.ev s<;>simp only[AS,FS,A6]
def Vj(off:Nat):Option Nat->D->Option D
 |none,.agg cs=>cs[off]?
 |some n,.agg cs=>if off+n<=cs.length then some (.agg ((cs.drop off).take n))else none
 |_,_=>none
def dY{off:Nat}{cs:List D}:Vj off none (.agg cs)=cs[off]?:=rfl
def kV{off n:Nat}{cs:List D}:Vj off (some n) (.agg cs)=if off+n<=cs.length then some (.agg ((cs.drop off).take n))else none:=rfl
def aFN{k:Option Nat}{off:Nat}{x:Hd}:AA S s m fr (.field k off x) K=Hq (Vj off k (x.ev s)) (λd=>K d []) .mk:=by
 simp only[AA,Ax];unfold Vj;cases x.ev s<;>cases k<;>simp only[AS,CE,FS]
def Vg(sz:Nat):D->D->(K:D->Hf->Prop)->Tag K->Prop
 | .slice _ _ xs,.int _ n,K,_=>Au (0<=n) (Hq xs[n.toNat]? (λd=>Au (d.cells.length=sz) (K (.eptr d.cells) []) .mk) .mk) .mk
 | .row i l,.int _ n,K,_=>Au (0<=n∧n<(l:Int)) (K (.ptr i (if sz=1 then n.toNat else n.toNat*sz)) []) .mk
 |_,_,_,_=>False
def kM{sz l:Nat}{i:Id}{k:IntKind}{n:Int}{g:Tag K}:Vg sz (.row i l) (.int k n) K g=Au (0<=n∧n<(l:Int)) (K (.ptr i (if sz=1 then n.toNat else n.toNat*sz)) []) .mk:=rfl
def Vf{sz:Nat}{nl:Bool}{t:Id}{xs:List D}{k:IntKind}{n:Int}{g:Tag K}:Vg sz (.slice nl t xs) (.int k n) K g=Au (0<=n) (Hq xs[n.toNat]? (λd=>Au (d.cells.length=sz) (K (.eptr d.cells) []) .mk) .mk) .mk:=rfl
def aFL{sz:Nat}{x i:Hd}:AA S s m fr (.iaddr sz x i) K=Vg sz (x.ev s) (i.ev s) K .mk:=by
 simp only[AA,Ax];unfold Vg;cases x.ev s<;>cases i.ev s<;>first|(simp only[AS];done)|(simp only[FS,Au];done)|skip
 rename_i nl t xs k n;rw[EB];simp only[Au];congr 1;cases xs[n.toNat]? with
 |none=>simp only[AS]
 |some d=>simp only[A6,FS,Au]
def aB2:D->D->(K:D->Hf->Prop)->Tag K->Prop
 | .str b,.int _ n,K,_=>Au (0<=n) (Hq b[n.toNat]? (λc=>K (.int .u8 (c.toNat:Int)) []) .mk) .mk
 |_,_,_,_=>False
def uX{b:List UInt8}{k:IntKind}{n:Int}{g:Tag K}:aB2 (.str b) (.int k n) K g=Au (0<=n) (Hq b[n.toNat]? (λc=>K (.int .u8 (c.toNat:Int)) []) .mk) .mk:=rfl
def aNQ{x i:Hd}:AA S s m fr (.idxs x i) K=aB2 (x.ev s) (i.ev s) K .mk:=by
 simp only[AA,Ax];unfold aB2;cases x.ev s<;>cases i.ev s<;>try simp only[AS]
 rw[EB,CE]
def kO(len sz:Nat):D->D->(K:D->Hf->Prop)->Tag K->Prop
 | .ptr j o,.int _ n,K,_=>Au (0<=n∧n<(len:Int)) (K (.ptr j (o+n.toNat*sz)) []) .mk
 |_,_,_,_=>False
def kN{len sz o:Nat}{j:Id}{k:IntKind}{n:Int}{g:Tag K}:kO len sz (.ptr j o) (.int k n) K g=Au (0<=n∧n<(len:Int)) (K (.ptr j (o+n.toNat*sz)) []) .mk:=rfl
def aFM{len sz:Nat}{x i:Hd}:AA S s m fr (.iadda len sz x i) K=kO len sz (x.ev s) (i.ev s) K .mk:=by
 simp only[AA,Ax];unfold kO;cases x.ev s<;>cases i.ev s<;>try simp only[AS]
 rw[FS,Au]
def aB3(len sz:Nat):D->D->(K:D->Hf->Prop)->Tag K->Prop
 | .agg cs,.int _ n,K,_=>Au (0<=n∧n<(len:Int)∧n.toNat*sz+sz<=cs.length) (K (.agg ((cs.drop (n.toNat*sz)).take sz)) []) .mk
 |_,_,_,_=>False
def uY{len sz:Nat}{cs:List D}{k:IntKind}{n:Int}{g:Tag K}:aB3 len sz (.agg cs) (.int k n) K g=Au (0<=n∧n<(len:Int)∧n.toNat*sz+sz<=cs.length) (K (.agg ((cs.drop (n.toNat*sz)).take sz)) []) .mk:=rfl
def aNR{len sz:Nat}{x i:Hd}:AA S s m fr (.idxm len sz x i) K=aB3 len sz (x.ev s) (i.ev s) K .mk:=by
 simp only[AA,Ax];unfold aB3;cases x.ev s<;>cases i.ev s<;>try simp only[AS]
 rw[FS,Au]
def aB4(len:Nat):D->D->(K:D->Hf->Prop)->Tag K->Prop
 | .agg cs,.int _ n,K,_=>Au (0<=n∧n<(len:Int)) (Hq cs[n.toNat]? (λd=>K d []) .mk) .mk
 |_,_,_,_=>False
def uZ{len:Nat}{cs:List D}{k:IntKind}{n:Int}{g:Tag K}:aB4 len (.agg cs) (.int k n) K g=Au (0<=n∧n<(len:Int)) (Hq cs[n.toNat]? (λd=>K d []) .mk) .mk:=rfl
def aNS{len:Nat}{x i:Hd}:AA S s m fr (.idxa len x i) K=aB4 len (x.ev s) (i.ev s) K .mk:=by
 simp only[AA,Ax];unfold aB4;cases x.ev s<;>cases i.ev s<;>try simp only[AS]
 rw[EB,CE]
def aG3(q:Bool):D->D->Option D
 | .int k a,.int _ b=>some (.int k (if q=true then max a b else min a b))
 |_,_=>none
def aOG{k w:IntKind}{a b:Int}:aG3 true (.int k a) (.int w b)=some (.int k (max a b)):=rfl
def aOH{k w:IntKind}{a b:Int}:aG3 false (.int k a) (.int w b)=some (.int k (min a b)):=rfl
def aRg{q:Bool}{x y:Hd}:AA S s m fr (.mxm q x y) K=Hq (aG3 q (x.ev s) (y.ev s)) (λd=>K d []) .mk:=by
 simp only[AA,Ax];unfold aG3;cases x.ev s<;>cases y.ev s<;>simp[AS,A6]
def C8(b j:Nat):Option D->Option Nat
 |none=>some b
 |some (.int _ n)=>if 0<=n∧n<=j then some n.toNat else none
 |some _=>none
def Ie(s:Nat->D):Option Hd->Option D
 |none=>none
 |some a=>some (a.ev s)
def jG:Ie s none=none:=rfl
def jF{a:Hd}:Ie s (some a)=some (a.ev s):=rfl
def fA{a b:Nat}:C8 a b none=some a:=rfl
def mB{a b:Nat}{k:IntKind}{n:Int}:C8 a b (some (.int k n))=if 0<=n∧n<=b then some n.toNat else none:=rfl
def eZ{x:Option Hd}{a b:Nat}:FO s x a b=C8 a b (Ie s x):=by
 cases x with
 |none=>rfl
 |some x=>simp only[FO,Ie,C8];cases x.ev s<;>rfl
def aDy:D->Option D->Option D->(K:D->Hf->Prop)->Tag K->Prop
 | .str b,lo,hi,K,_=>Hq (C8 b.length b.length hi) (λh=>Hq (C8 0 h lo) (λl=>K (.str ((b.drop l).take (h-l))) []) .mk) .mk
 |_,_,_,_,_=>False
def wP{b:List UInt8}{lo hi:Option D}{g:Tag K}:aDy (.str b) lo hi K g=Hq (C8 b.length b.length hi) (λh=>Hq (C8 0 h lo) (λl=>K (.str ((b.drop l).take (h-l))) []) .mk) .mk:=rfl
def aNT{x:Hd}{lo hi:Option Hd}:AA S s m fr (.cuts x lo hi) K=aDy (x.ev s) (Ie s lo) (Ie s hi) K .mk:=by
 simp only[AA,Ax];unfold aDy;cases x.ev s<;>simp only[AS,eZ];rename_i b;cases C8 b.length b.length (Ie s hi)with
 |none=>simp only[AS]
 |some h=>
  simp only[A6];cases C8 0 h (Ie s lo)with
  |none=>simp only[AS]
  |some l=>simp only[A6]
def aDz(sz:Nat):D->Option D->Option D->(K:D->Hf->Prop)->Tag K->Prop
 | .slice nl _ xs,lo,hi,K,_=>Au (aE xs sz=sz) (Hq (C8 xs.length xs.length hi) (λh=>Hq (C8 0 h lo) (λl=>K (.slice nl [] ((xs.drop l).take (h-l))) []) .mk) .mk) .mk
 |_,_,_,_,_=>False
def eP{sz:Nat}{nl:Bool}{t:Id}{xs:List D}{lo hi:Option D}{g:Tag K}:aDz sz (.slice nl t xs) lo hi K g=Au (aE xs sz=sz) (Hq (C8 xs.length xs.length hi) (λh=>Hq (C8 0 h lo) (λl=>K (.slice nl [] ((xs.drop l).take (h-l))) []) .mk) .mk) .mk:=rfl
def aNU{sz:Nat}{x:Hd}{lo hi:Option Hd}:AA S s m fr (.cutl sz x lo hi) K=aDz sz (x.ev s) (Ie s lo) (Ie s hi) K .mk:=by
 simp only[AA,Ax];unfold aDz;cases x.ev s<;>simp only[AS,eZ];rename_i nl t xs;rw[EB];cases C8 xs.length xs.length (Ie s hi)with
 |none=>simp[Hq,Au]
 |some h=>
  simp only;cases h1:C8 0 h (Ie s lo)with
  |none=>simp[Hq,Au,h1]
  |some l=>simp[Hq,Au,h1]
def aNN{t:TypeId}{x:Hd}:AA S s m fr (.mkif t x) K=Au ((x.ev s).data=true∧(x.ev s).un.calm=true) (K (.iface t (x.ev s).un) []) .mk:=by
 simp only[AA,Ax];rw[EB,A6]
def aPL(i:Nat):D->Option D
 | .tup vs=>vs[i]?
 |_=>none
def aCn{i:Nat}{vs:List D}:aPL i (.tup vs)=vs[i]?:=rfl
def aRi{i:Nat}{x:Hd}:AA S s m fr (.ext i x) K=Hq (aPL i (x.ev s)) (λd=>K d []) .mk:=by
 simp only[AA,Ax];unfold aPL;cases x.ev s<;>simp[AS,CE]
def aNO{f:FuncId}{caps:List Hd}:AA S s m fr (.mkfn f caps) K=K (.fn f (caps.map (·.ev s))) []:=by simp[AA,Ax,Hq]
def aRh{b:Bool}{x:Hd}:AA S s m fr (.len b x) K=Hq (jY b (x.ev s)) (λn=>K (.int .i64 (n:Int)) []) .mk:=X0
def aBs{b:List UInt8}:jY true (.str b)=some b.length:=rfl
def jX{nl:Bool}{t:Id}{xs:List D}:jY false (.slice nl t xs)=some xs.length:=rfl
def aBt{i:Id}{n:Nat}:jY false (.row i n)=some n:=rfl
def LK(m:Ha)(e:Nat):D->Prop
 | .slice nl t _=>nl=true∨(m t 0=some (.tok (e+1))∧t≠[])
 |_=>False
def Bh(e:Nat)(fr:Id):D->Hf
 | .slice true _ _=>[(fr,0,[.tok (e+1)])]
 | .slice false t _=>[(t,0,[.tok 0]),(fr,0,[.tok (e+1)])]
 |_=>[]
def aQb(e sz bytes:Nat)(fr:Id):D->Option (List D)->(m:Ha)->(K:D->Hf->Prop)->Tag (m,K)->Prop
 | .slice nl t xs,some ys,m,K,_=>OT (nl=true∧ys=[]) (K (.slice true [] []) [])
   (Au ((xs.length+ys.length)*(bytes+1)<=140737488355328∧aE ys sz=sz∧LK m e (.slice nl t xs)) (K (.slice false fr (if nl=true then ys else xs++ys)) (Bh e fr (.slice nl t xs))) .mk) .mk
 |_,_,_,_,_=>False
def VL{sz:Nat}{nl:Bool}{t:Id}{ys:List D}:I5 sz (.slice nl t ys)=some ys:=rfl
def mG{sz:Nat}{b:List UInt8}:I5 sz (.str b)=if sz=1 then some (AH b)else none:=rfl
def mH{e sz bytes:Nat}{nl:Bool}{t:Id}{xs ys:List D}{g:Tag (m,K)}:aQb e sz bytes fr (.slice nl t xs) (some ys) m K g=OT (nl=true∧ys=[]) (K (.slice true [] []) [])
   (Au ((xs.length+ys.length)*(bytes+1)<=140737488355328∧aE ys sz=sz∧LK m e (.slice nl t xs)) (K (.slice false fr (if nl=true then ys else xs++ys)) (Bh e fr (.slice nl t xs))) .mk) .mk:=rfl
def B8{nl:Bool}{xs ys:List D}(h:nl=true->xs=[]):(if nl=true then ys else xs++ys)=xs++ys:=by
 simp_all
def aRn{e sz bytes:Nat}{x y:Hd}:AA S s m fr (.app e sz bytes x y) K=aQb e sz bytes fr (x.ev s) (I5 sz (y.ev s)) m K .mk:=by
 simp only[AA,Ax];unfold aQb;cases x.ev s<;>cases I5 sz (y.ev s)<;>simp only[AS];rename_i nl t xs ys;by_cases u:nl=true∧ys=[]
 ·grind [A6,OT]
 ·rw[if_neg u];have w:∀A B:Prop,OT (nl=true∧ys=[]) A B .mk=B:=λA B=>by simp[OT,u]
  rw[w,EB];cases nl with
  |true=>simp[Hq,Au,Bh,LK,and_assoc]
  |false=>
   simp only[QS,LK,Bh,false_or];cases hm:m t 0 with
   |none=>simp[Hq,Au]
   |some d=>
    cases d with
    |tok k=>
     by_cases hk:k=e+1∧t≠[]
     ·grind [Hq,Au]
     ·grind [Hq,Au]
    |_=>simp[Hq,Au]
def aA9(e sz bytes:Nat)(z:D)(fr:Id):D->D->(K:D->Hf->Prop)->Tag K->Prop
 | .int _ n,.int _ c,K,_=>Au (0<=n∧n<=c∧c*(bytes+1)<=140737488355328∧z.cells.length=sz) (if z.isRw=true then Au (n=c) (K (.row fr n.toNat) [(fr,0,Q7 n.toNat z)]) .mk else K (.slice false fr (Q7 n.toNat z)) [(fr,0,[.tok (e+1)])]) .mk
 |_,_,_,_=>False
def uO{e sz bytes:Nat}{z:D}{k w:IntKind}{n c:Int}{g:Tag K}:aA9 e sz bytes z fr (.int k n) (.int w c) K g=Au (0<=n∧n<=c∧c*(bytes+1)<=140737488355328∧z.cells.length=sz) (if z.isRw=true then Au (n=c) (K (.row fr n.toNat) [(fr,0,Q7 n.toNat z)]) .mk else K (.slice false fr (Q7 n.toNat z)) [(fr,0,[.tok (e+1)])]) .mk:=rfl
def aHw:D.isRw .nilIface=true:=rfl
def aBU{k:IntKind}{n:Int}:D.isRw (.int k n)=false:=rfl
def aBT:D.isRw (.str [])=true:=rfl
def uU{b:Bool}:D.isRw (.bool b)=false:=rfl
def kI{nl:Bool}{t:Id}{xs:List D}:D.isRw (.slice nl t xs)=false:=rfl
def aBV{xs:List D}:D.isRw (.agg xs)=false:=rfl
def aNM{e sz bytes:Nat}{z:D}{n c:Hd}:AA S s m fr (.mksl e sz bytes z n c) K=aA9 e sz bytes z fr (n.ev s) (c.ev s) K .mk:=by
 simp only[AA,Ax];unfold aA9;cases n.ev s<;>cases c.ev s<;>first|(simp only[AS];done)|skip
 by_cases j:z.isRw=true
 ·simp_all [EB,A6,Au]
 ·simp_all [EB,A6,Au]
def RS(S:G8):D->List D->(m:Ha)->Id->(K:D->Hf->Prop)->Tag (m,K)->Prop
 | .fn f caps,ds,m,fr,K,_=>Hq (S f) (λq=>Hq (q.ex (ds++caps) m fr) (λx=>K x.1 x.2) .mk) .mk
 |_,_,_,_,_,_=>False
def aNW{f:Hd}{xs:List Hd}:AA S s m fr (.call f xs) K=RS S (f.ev s) (xs.map (·.ev s)) m fr K .mk:=by
 simp only[AA,Ax];unfold RS;cases f.ev s<;>simp only[AS];rename_i f caps;cases S f with
 |none=>simp only[AS]
 |some q=>simp only[A6]
def AE{f:FuncId}{caps ds:List D}{q:HF}{g:Tag (m,K)}(h:S f=some q):RS S (.fn f caps) ds m fr K g=Hq (q.ex (ds++caps) m fr) (λx=>K x.1 x.2) .mk:=by
 grind [RS,A6]
def Ab{f:FuncId}{caps ds:List D}{F:List D->Option D}{g:Tag (m,K)}(h:S f=some (Ac F)):RS S (.fn f caps) ds m fr K g=Au (((ds++caps).map D.un).all D.calm=true) (Hq (F ((ds++caps).map D.un)) (λr=>K r []) .mk) .mk:=by
 rw[AE h];simp only[Ac,EB,Au];rw[CE]
def AD(S:G8)(f:FuncId){q:HF}(h:S f=some q:=by exact rfl){caps ds:List D}{g:Tag (m,K)}:RS S (.fn f caps) ds m fr K g=Hq (q.ex (ds++caps) m fr) (λx=>K x.1 x.2) .mk:=AE h
def Ae(S:G8)(f:FuncId){F:List D->Option D}(h:S f=some (Ac F):=by exact rfl){caps ds:List D}{g:Tag (m,K)}:RS S (.fn f caps) ds m fr K g=Au (((ds++caps).map D.un).all D.calm=true) (Hq (F ((ds++caps).map D.un)) (λr=>K r []) .mk) .mk:=Ab h
end
def Af{S:G8}{ns:Id}{c b:DC}{Q:Ex->St->Prop}{v:St}{t:Tag (S,ns,c,Q,v)}(h:c=b)(k:b.wp S ns (cJ S ns c Q) v):Be S ns c Q v t:=zM (h▸k)
section
variable{k:IntKind}{a b:Int}
def aRN:AQ .add (.int k a) (.int k b)=some (.int k (k.wrap (a+b))):=Xm
def aRx:AQ .sub (.int k a) (.int k b)=some (.int k (k.wrap (a-b))):=Xm
def aRF:AQ .mul (.int k a) (.int k b)=some (.int k (k.wrap (a*b))):=Xm
def aRB:AQ .quo (.int k a) (.int k b)=if b≠0 then some (.int k (k.wrap (a.tdiv b)))else none:=by by_cases h:b=0<;>simp[AQ,h]
def aRA:AQ .rem (.int k a) (.int k b)=if b≠0 then some (.int k (a.tmod b))else none:=by by_cases h:b=0<;>simp[AQ,h]
def aRM:AQ .and (.int k a) (.int k b)=some (.int k (bits .and k a b)):=Xm
def aWm:AQ .or (.int k a) (.int k b)=some (.int k (bits .or k a b)):=Xm
def aRw:AQ .xor (.int k a) (.int k b)=some (.int k (bits .xor k a b)):=Xm
def aRK:AQ .eql (.int k a) (.int k b)=some (.bool (decide (a=b))):=by simp[AQ];rfl
def aRD:AQ .neq (.int k a) (.int k b)=some (.bool (decide (¬a=b))):=by simp[AQ];rfl
def aRG:AQ .lss (.int k a) (.int k b)=some (.bool (decide (a<b))):=Xm
def aRH:AQ .leq (.int k a) (.int k b)=some (.bool (decide (a<=b))):=Xm
def aRI:AQ .gtr (.int k a) (.int k b)=some (.bool (decide (b<a))):=Xm
def aRJ:AQ .geq (.int k a) (.int k b)=some (.bool (decide (b<=a))):=Xm
def aRz{w:IntKind}:AQ .shl (.int k a) (.int w b)=if 0<=b then some (.int k (k.wrap (a*2 ^ min b.toNat k.bits)))else none:=Xm
def aRy{w:IntKind}:AQ .shr (.int k a) (.int w b)=if 0<=b then some (.int k (a.fdiv (2 ^ min b.toNat k.bits)))else none:=Xm
variable{x y:List UInt8}
def aRL:AQ .add (.str x) (.str y)=if x.length+y.length<=9223372036854775807 then some (.str (x++y))else none:=Xm
def aN4:AQ .eql (.str x) (.str y)=some (.bool (decide (x=y))):=by
 grind [AQ]
def aN3:AQ .neq (.str x) (.str y)=some (.bool (decide (¬x=y))):=by
 grind [AQ]
def aRC{p:Bool}:vP .not (.bool p)=some (.bool (!p)):=rfl
def aRE:vP .neg (.int k a)=some (.int k (k.wrap (0-a))):=rfl
end
def aGY{p:Prop}[Decidable p]:(!decide p)=decide (¬p):=by by_cases h:p<;>simp[h]
def aCB{p:Prop}[Decidable p]:(decide p=true)=p:=U
def wG{p:Prop}[Decidable p]:(decide p=false)=¬p:=U
def aW8:(false=true)=False:=U
def aWo:(true=false)=False:=U
def aHA{p A B:Prop}{t:Tag (A,B)}:OT (¬p) A B t=OT p B A .mk:=by
 grind [OT]
def tN{o:DOper}{l:List DOper}:DD (o::l) 0=o.dst:=rfl
def tT{o:DOper}{l:List DOper}{j:Nat}:DD (o::l) (j+1)=DD l j:=by simp[DD]
def aH8{m:Ha}:Hf.app m []=m:=rfl
def aDT{m:Ha}{i:Id}{o:Nat}{ds:List D}{u:Hf}:Hf.app m ((i,o,ds)::u)=Hf.app (m.put i o ds) u:=rfl
def Wv:BG []=some []:=rfl
def Uo{n:Int}{r:List D}:BG (.int .u8 n::r)=(BG r).map (UInt8.ofNat n.toNat::·):=rfl
def UT{α β:Type}{f:α->β}{x:α}:(some x).map f=some (f x):=rfl
def eD{rs:List RV}{R:D->Ha->Prop}{v:St}:Ea rs R .normal v=Hq (C_ rs v.s v.m) (λd=>R d v.m) .mk:=by
 simp[Ea,Hq]
def aCp{rs:List RV}{R:D->Ha->Prop}{v:St}:Ea rs R .ret v=Hq (C_ rs v.s v.m) (λd=>R d v.m) .mk:=by
 simp[Ea,Hq]
def vS{rs:List RV}{R:D->Ha->Prop}{v:St}{i:Nat}:Ea rs R (.exit i) v=False:=by
 simp[Ea]
def aGB{s:Nat->D}{m:Ha}{t:Nat}:C_ [.t t] s m=some (s t):=rfl
def aGA{s:Nat->D}{m:Ha}{t b:Nat}:C_ [.t t,.t b] s m=some (.tup [s t,s b]):=rfl
def uG{s:Nat->D}{m:Ha}{t b a:Nat}:C_ [.t t,.t b,.t a] s m=some (.tup [s t,s b,s a]):=rfl
def aAF{s:Nat->D}{m:Ha}:C_ [] s m=some (.tup []):=rfl
def kZ{d:D}{ds:List D}:BI (d::ds) 0=d:=rfl
def lA{d:D}{ds:List D}{t:Nat}:BI (d::ds) (t+1)=BI ds t:=rfl
def vQ{t:Nat}:BI [] t= .junk:=rfl
def WQ(S:G8)(ns:Id)(c:Nat)(ops l:List DOper)(k:Nat)(s:Nat->D)(r:Option Nat)(m:Ha)(K:Nat->(Nat->D)->Ha->Prop)(d:D)(u:Hf):Prop:=Gb S ns c ops l k (Cq s r d) (Hf.app m u) K
def NZ(S:G8)(ns:Id)(c:Nat)(ops l:List DOper)(k:Nat)(s:Nat->D)(r:Option Nat)(m:Ha)(op:DOp)(K:Nat->(Nat->D)->Ha->List Mm->Prop)(d:D)(u:Hf):Prop:=
 Ci S ns c ops l k (Cq s r d) (Hf.app m u) λw v m' f=>K w v m' ((Hu S s m op,AF u)::f)
section
variable{S:G8}{ns:Id}{c k:Nat}{ops l:List DOper}{s:Nat->D}{m:Ha}{dst:Option Nat}{op:DOp}{af:List Nat}{j:Nat}{b:Bool}{d:D}{i:Id}{o e:Nat}{fr:Id}{ds:List D}{u:Hf}
section
variable{K:Nat->(Nat->D)->Ha->Prop}
def aGv:Gb S ns c ops [] k s m K=K k s m:=rfl
def aGu:Gb S ns c ops (⟨dst,op,af,none⟩::l) k s m K=AA S s m ((c+k)::ns) op (WQ S ns c ops l (k+1) s dst m K):=rfl
def aOm:Gb S ns c ops (⟨dst,op,af,some (j,b)⟩::l) k s m K=L6 (GT s (DD ops j)) b
   (AA S s m ((c+k)::ns) op (WQ S ns c ops l (k+1) s dst m K)) (Gb S ns c ops l (k+1) (Cq s dst (.tup [])) m K) .mk:=rfl
def aAx:WQ S ns c ops l k s dst m K d []=Gb S ns c ops l k (Cq s dst d) m K:=rfl
def uC:WQ S ns c ops l k s dst m K d ((i,o,ds)::u)=WQ S ns c ops l k s dst (m.put i o ds) K d u:=rfl
def NC{n:D}:WQ S ns c ops l k s dst m K d (Bh e fr n)=Gb S ns c ops l k (Cq s dst d) (Hf.app m (Bh e fr n)) K:=rfl
end
variable{K:Nat->(Nat->D)->Ha->List Mm->Prop}
def vW:Ci S ns c ops [] k s m K=K k s m []:=rfl
def vV:Ci S ns c ops (⟨dst,op,af,none⟩::l) k s m K=AA S s m ((c+k)::ns) op (NZ S ns c ops l (k+1) s dst m op K):=rfl
def aCt:Ci S ns c ops (⟨dst,op,af,some (j,b)⟩::l) k s m K=L6 (GT s (DD ops j)) b
   (AA S s m ((c+k)::ns) op (NZ S ns c ops l (k+1) s dst m op K))
   (Ci S ns c ops l (k+1) (Cq s dst (.tup [])) m λw v m' f=>K w v m' ((Hu S s m op,[])::f)) .mk:=rfl
def lC:NZ S ns c ops l k s dst m op K d []=Ci S ns c ops l k (Cq s dst d) m λw v m' f=>K w v m' ((Hu S s m op,[])::f):=rfl
def eG:NZ S ns c ops l k s dst m op K d ((i,o,ds)::u)=Ci S ns c ops l k (Cq s dst d) (Hf.app (m.put i o ds) u) λw v m' f=>K w v m' ((Hu S s m op,AF ((i,o,ds)::u))::f):=rfl
def eF{n:D}:NZ S ns c ops l k s dst m op K d (Bh e fr n)=Ci S ns c ops l k (Cq s dst d) (Hf.app m (Bh e fr n)) λw v m' f=>K w v m' ((Hu S s m op,AF (Bh e fr n))::f):=rfl
end
def aDw{k:IntKind}{n:Int}:D.data (.int k n)=true:=rfl
def aDu{b:List UInt8}:D.data (.str b)=true:=rfl
def wM{b:Bool}:D.data (.bool b)=true:=rfl
def lP{nl:Bool}{t:Id}{xs:List D}:D.data (.slice nl t xs)=true:=rfl
def aDx{xs:List D}:D.data (.agg xs)=true:=rfl
def aDv{i:Id}{o:Nat}:D.data (.ptr i o)=true:=rfl
def eN:D.data .nilptr=true:=rfl
def wZ{k:IntKind}{n:Int}:D.cells (.int k n)=[.int k n]:=rfl
def wX{b:List UInt8}:D.cells (.str b)=[.str b]:=rfl
def lT{b:Bool}:D.cells (.bool b)=[.bool b]:=rfl
def FL{nl:Bool}{t:Id}{xs:List D}:D.cells (.slice nl t xs)=[.slice nl t xs]:=rfl
def xA{xs:List D}:D.cells (.agg xs)=xs:=rfl
def wY{i:Id}{o:Nat}:D.cells (.ptr i o)=[.ptr i o]:=rfl
def aN8{k:IntKind}{n:Int}:D.un (.int k n)= .int k n:=rfl
def aN7{b:List UInt8}:D.un (.str b)= .str b:=rfl
def aF4{b:Bool}:D.un (.bool b)= .bool b:=rfl
def zY{nl:Bool}{t:Id}{xs:List D}:D.un (.slice nl t xs)= .slice nl [] xs:=rfl
def aN9{xs:List D}:D.un (.agg xs)= .agg (xs.map D.un1):=rfl
def aRO{f:FuncId}{cs:List D}:D.un (.fn f cs)= .fn f cs:=rfl
def aGa{k:IntKind}{n:Int}:D.un1 (.int k n)= .int k n:=rfl
def aF9{b:List UInt8}:D.un1 (.str b)= .str b:=rfl
def aAa{b:Bool}:D.un1 (.bool b)= .bool b:=rfl
def sS{nl:Bool}{t:Id}{xs:List D}:D.un1 (.slice nl t xs)= .slice nl [] xs:=rfl
def aF7{k:IntKind}{n:Int}:D.unR (.int k n)= .int k n:=rfl
def aF6{b:List UInt8}:D.unR (.str b)= .str b:=rfl
def zZ{b:Bool}:D.unR (.bool b)= .bool b:=rfl
def sR{nl:Bool}{t:Id}{xs:List D}:D.unR (.slice nl t xs)= .slice nl [] xs:=rfl
def aF8{xs:List D}:D.unR (.agg xs)= .agg (xs.map D.un1):=rfl
def aF5{xs:List D}:D.unR (.tup xs)= .tup (xs.map D.un):=rfl
def aDL{k:IntKind}{n:Int}:D.calm (.int k n)=true:=rfl
def aDJ{b:List UInt8}:D.calm (.str b)=true:=rfl
def xC{b:Bool}:D.calm (.bool b)=true:=rfl
def lV{nl:Bool}{xs:List D}:D.calm (.slice nl [] xs)=true:=rfl
def xD{xs:List D}:D.calm (.agg xs)=xs.all D.calm1:=rfl
def aH2{f:FuncId}:D.calm (.fn f [])=true:=rfl
def xJ{k:IntKind}{n:Int}:D.calm1 (.int k n)=true:=rfl
def xI{b:List UInt8}:D.calm1 (.str b)=true:=rfl
def lY{b:Bool}:D.calm1 (.bool b)=true:=rfl
def eX{nl:Bool}{xs:List D}:D.calm1 (.slice nl [] xs)=true:=rfl
def xG{k:IntKind}{n:Int}:D.calmR (.int k n)=true:=rfl
def xF{b:List UInt8}:D.calmR (.str b)=true:=rfl
def lX{b:Bool}:D.calmR (.bool b)=true:=rfl
def eW{nl:Bool}{xs:List D}:D.calmR (.slice nl [] xs)=true:=rfl
def xH{xs:List D}:D.calmR (.agg xs)=xs.all D.calm1:=rfl
def xE{xs:List D}:D.calmR (.tup xs)=xs.all D.calm:=rfl
def aOS{f:D->D}{x:D}{xs:List D}:(x::xs).map f=f x::xs.map f:=rfl
def aHs{f:D->D}:ZP f []=[]:=rfl
def aOR{f:Hd->D}{x:Hd}{xs:List Hd}:(x::xs).map f=f x::xs.map f:=rfl
def aHr{f:Hd->D}:ZP f []=[]:=rfl
def aOQ{f:Nat×Nat×Hd->Nat×Nat×D}{x:Nat×Nat×Hd}{xs:List (Nat×Nat×Hd)}:(x::xs).map f=f x::xs.map f:=rfl
def aHq{f:Nat×Nat×Hd->Nat×Nat×D}:ZP f []=[]:=rfl
def aTx{f:D->Bool}{x:D}{xs:List D}:(x::xs).all f=(f x&&xs.all f):=rfl
def aOZ{f:D->Bool}:List.all [] f=true:=rfl
def aTv{x:D}{xs:List D}:(x::xs).length=xs.length+1:=rfl
def aOT:([]:List D).length=0:=rfl
def aTw{x:D}{xs ys:List D}:(x::xs)++ys=x::(xs++ys):=rfl
def aOY{ys:List D}:[]++ys=ys:=rfl
def aOX{ys:List D}:ys++[]=ys:=U
def aOW{x:D}{xs:List D}:(x::xs)[0]?=some x:=rfl
def aOV{x:D}{xs:List D}{n:Nat}:(x::xs)[n+1]?=xs[n]?:=rfl
def aOU{x:D}{xs:List D}:(x::xs).head?=some x:=rfl
def aTp{n:Nat}:(n==n)=true:=U
def aOu:(True∧True)=True:=U
def aR1{p:Prop}:(True∧p)=p:=U
def aOv{p:Prop}:(p∧True)=p:=U
def aWu:(¬False)=True:=U
def aWt:(¬True)=False:=U
def aXe:(true=true)=True:=U
def aXf:(false=false)=True:=U
def aXa:decide True=true:=U
def aXb:decide False=false:=U
def C2:=Qa @WJ <| Qa @aAm <| Qa @tY <| Qa @SF <| Qa @mD <| Qa @Et <| Qa @U6 <| Qa @uS <| Qa @jV <| Qa @zL <| Qa @aFT <| Qa @zN <| Qa @aFR <| Qa @Wk <| Qa @iF <| Qa @sO <| Qa @Wj <| Qa @iE <| Qa @tV <| Qa @tW <| Qa @bK <| Qa @bL <| Qa @aWh <| Qa @aNK <| Qa @aFQ <| Qa @aRj <| Qa @aFP <| Qa @zK <| Qa @aNP <| Qa @aFJ <| Qa @aNL <| Qa @aFI <| Qa @zJ <| Qa @aRk <| Qa @aWg <| Qa @aRl <| Qa @aRd <| Qa @aFK <| Qa @aNV <| Qa @aRe <| Qa @aRf <| Qa @aRm <| Qa @aFO <| Qa @aFN <| Qa @aFL <| Qa @aNQ <| Qa @aNS <| Qa @aNR <| Qa @aRg <| Qa @aFM <| Qa @aNT <| Qa @aNU <| Qa @aNN <| Qa @aRi <| Qa @aNO <| Qa @aRh <| Qa @aRn <| Qa @aNM <| Qa @aNW <| Qa @eD <| Qa @aCp <| Qa @vS <| Qa @aGB <| Qa @aGA <| Qa @uG <| Qa @aAF <| Qa @aGv <| Qa @aGu <| Qa @aOm <| Qa @aAx <| Qa @uC <| Qa @NC <| Qa @lC <| Qa @eG <| Qa @eF <| Qa @vW <| Qa @vV <| Qa @aCt <| Qa @tN @tT
def Hc:=Qa @Ug <| Qa @aB1 <| Qa @uW <| Qa @A6 <| Qa @AS <| Qa @EB <| Qa @CE <| Qa @IS <| Qa @kS <| Qa @CL <| Qa @Mi <| Qa @jC <| Qa @uT <| Qa @iZ <| Qa @uM <| Qa @aA4 <| Qa @jW <| Qa @Rg <| Qa @OC <| Qa @iO <| Qa @bX <| Qa @UZ <| Qa @jL <| Qa @aQa <| Qa @aP9 <| Qa @PT <| Qa @wS <| Qa @aAn <| Qa @aAo <| Qa @mF <| Qa @kX <| Qa @eA <| Qa @dY <| Qa @kV <| Qa @Vf <| Qa @uX <| Qa @uZ <| Qa @uY <| Qa @aOG <| Qa @aOH <| Qa @kN <| Qa @wP <| Qa @eP <| Qa @jG <| Qa @jF <| Qa @fA <| Qa @mB <| Qa @aCn <| Qa @aBs <| Qa @jX <| Qa @aBt <| Qa @mH <| Qa @VL <| Qa @mG <| Qa @uO <| Qa @aHw <| Qa @aBU <| Qa @aBT <| Qa @uU <| Qa @kI <| Qa @aBV <| Qa @kM <| Qa @aRN <| Qa @aRx <| Qa @aRF <| Qa @aRB <| Qa @aRA <| Qa @aRM <| Qa @aWm <| Qa @aRw <| Qa @aRK <| Qa @aRD <| Qa @aRG <| Qa @aRH <| Qa @aRI <| Qa @aRJ <| Qa @aRz <| Qa @aRy <| Qa @aRL <| Qa @aN4 <| Qa @aN3 <| Qa @aRC <| Qa @aRE <| Qa @aGY <| Qa @aCB <| Qa @wG <| Qa @aW8 <| Qa @aWo <| Qa @aHA <| Qa @aH8 <| Qa @aDT <| Qa @Wv <| Qa @Uo <| Qa @UT <| Qa @kZ <| Qa @lA @vQ
def H_:=Qa @aDw <| Qa @aDu <| Qa @wM <| Qa @lP <| Qa @aDx <| Qa @aDv <| Qa @eN <| Qa @wZ <| Qa @wX <| Qa @lT <| Qa @FL <| Qa @xA <| Qa @wY <| Qa @aN8 <| Qa @aN7 <| Qa @aF4 <| Qa @zY <| Qa @aN9 <| Qa @aRO <| Qa @aGa <| Qa @aF9 <| Qa @aAa <| Qa @sS <| Qa @aF7 <| Qa @aF6 <| Qa @zZ <| Qa @sR <| Qa @aF8 <| Qa @aF5 <| Qa @aDL <| Qa @aDJ <| Qa @xC <| Qa @lV <| Qa @xD <| Qa @aH2 <| Qa @xJ <| Qa @xI <| Qa @lY <| Qa @eX <| Qa @xG <| Qa @xF <| Qa @lX <| Qa @eW <| Qa @xH @xE
def Hl:=Qa @aOS <| Qa @aHs <| Qa @aOR <| Qa @aHr <| Qa @aOQ <| Qa @aHq <| Qa @aTx <| Qa @aOZ <| Qa @aTv <| Qa @aOT <| Qa @aTw <| Qa @aOY <| Qa @aOX <| Qa @aOW <| Qa @aOV <| Qa @aOU <| Qa @aTp <| Qa @aOu <| Qa @aR1 <| Qa @aOv <| Qa @aWu <| Qa @aWt <| Qa @aXe <| Qa @aXf <| Qa @aXa <| Qa @aXb <| Qa @ZG <| Qa @Bool.and_true <| Qa @ZH @ZD
def Hb:(type_of% @Qi.{0,0})∧(type_of% @QO.{0,0})∧(type_of% @Hc)∧(type_of% @H_)∧(type_of% @Hl):=
 ⟨@Qi,@QO,@Hc,@H_,@Hl⟩
def Ho:(type_of% @QM.{0})∧(type_of% @Qg.{0})∧(type_of% @Qh.{0})∧(type_of% @Qk.{0})∧(type_of% @Qw)∧(type_of% @Qm)∧(type_of% @Qx)∧(type_of% @and_self)∧(type_of% @Hc)∧(type_of% @H_)∧(type_of% @Hl):=
 ⟨@QM,@Qg,@Qh,@Qk,@Qw,@Qm,@Qx,@and_self,@Hc,@H_,@Hl⟩
def G9:(type_of% @Hc)∧(type_of% @H_)∧(type_of% @Hl):=
 ⟨@Hc,@H_,@Hl⟩
def Aj {P:Program} {f:FuncId} {N:Nat} {s:DC} {rs:List RV} {k:Func} {v:Code} (u:P.funcs[f]?=some k) (y:k.body=some v:=by rfl) (i:(k.name== "runtime.NumGoroutine")=false:=by kernel_rfl) (p:k.ntmps=N:=by rfl) (m:Bg P N v=some s:=by kernel_rfl) (n:LM P k.results.toList=some rs:=by kernel_rfl):Fn P f N s rs:=⟨k,v,u,y,i,p,m,n⟩
def startG(G:Nat->Nat):Gh:={G:=G,G0:=G,dl:=λ_=>none,tb:=λ_=>none}
def Nz(P:Program)(w:World){G:Nat->Nat}(a:∀b,w.heap.size<=b->G b=0):Hi P w.heap.size w (λ_ _=>none) w (startG G):=
 ⟨Below.refl _ _,QA _,a,λ_ _=>rfl,λi b h=>by simp[startG]at h,λi f b h=>by simp[startG]at h,λi o d h=>Xd,λi e h=>Xd,λi f e n b x t h=>Xd,λi s p h=>Xd,λi f s p v k b x t h=>Xd⟩
def AV(f:List Mm)(ps:List (Nat×Nat)):Bool:=ps.all λp=>(f.getD p.1 ([],[])).2.all λl=>!((f.getD p.2 ([],[])).1.contains l)&&!((f.getD p.2 ([],[])).2.contains l)
def Am{f:List Mm}{ps:List (Nat×Nat)}(h:AV f ps=true):Mb f ps:=by
 intro p c l hl;have u:=Qt.1 h p c;have y:=Qt.1 u l hl;simpa using y
def A1{f:List Mm}{ps:List (Nat×Nat)}{K:Prop}{t:Tag K}(k:K)(h:AV f ps=true:=by first|rfl|simp[AV,AF,Hu,Ai,Ac]):Au (Mb f ps) K t:=⟨Am h,k⟩
def DC.run(S:G8)(ns:Id):Nat->DC->St->Option (Ex×St)
 |0,_,_=>none
 |_+1,.skip,st=>some (.normal,st)
 |_+1,.ret,st=>some (.ret,st)
 |_+1,.exit i,st=>some (.exit i,st)
 |_+1,.row ops,st=>match Es S ns st.c ops ops 0 st.s st.m with
  |some (s,m)=>some (.normal,⟨s,m,st.c+ops.length⟩)
  |none=>none
 |_+1,.drawn ops ps,st=>match Ch S ns st.c ops ops 0 st.s st.m with
  |some (s,m,f)=>if AV f ps=true then some (.normal,⟨s,m,st.c+ops.length⟩)else none
  |none=>none
 |n+1,.seq a b,st=>match DC.run S ns n a st with
  |some (.normal,st1)=>DC.run S ns n b st1
  |r=>r
 |n+1,.cond c a b,st=>match c.ev st.s with
  | .bool true=>DC.run S ns n a st
  | .bool false=>DC.run S ns n b st
  |_=>none
 |n+1,.block i c,st=>match DC.run S ns n c st with
  |some (.exit j,st1)=>if j=i then some (.normal,st1)else some (.exit j,st1)
  |r=>r
 |n+1,.loop c,st=>match DC.run S ns n c st with
  |some (.normal,st1)=>DC.run S ns n (.loop c) st1
  |r=>r
def aOl{S:G8}{ns:Id}:∀(n:Nat)(w:DC)(v:St)(e:Ex)(r:St),DC.run S ns n w v=some (e,r)->Ev S ns w v e r:=by
 intro n;induction n with
 |zero=>intro w v e r h;simp[DC.run]at h
 |succ n ih=>
  intro w v e r h;cases w with
  |skip=>simp only[DC.run,Qb,Qs]at h;exact⟨h.1.symm,h.2.symm⟩
  |ret=>simp only[DC.run,Qb,Qs]at h;exact⟨h.1.symm,h.2.symm⟩
  |exit i=>simp only[DC.run,Qb,Qs]at h;exact⟨h.1.symm,h.2.symm⟩
  |row ops=>
   simp only[DC.run]at h;split at h
   ·rename_i s m p;simp only[Qb,Qs]at h;obtain⟨rfl,rfl⟩:=h;exact⟨rfl,p,rfl⟩
   ·cases h
  |drawn ops ps=>
   simp only[DC.run]at h;split at h
   ·rename_i s m f p;split at h
    ·rename_i hf;simp only[Qb,Qs]at h;obtain⟨rfl,rfl⟩:=h;exact⟨rfl,⟨f,p,Am hf⟩,rfl⟩
    ·cases h
   ·cases h
  |seq a b=>
   simp only[DC.run]at h;split at h
   ·rename_i st1 u;exact⟨.normal,st1,ih _ _ _ _ u,.inl ⟨rfl,ih _ _ _ _ h⟩⟩
   ·rename_i t;refine⟨e,r,ih _ _ _ _ h,.inr ⟨λp=>?_,rfl,rfl⟩⟩;subst p;exact t r h
  |cond c a b=>
   simp only[DC.run]at h;split at h
   ·rename_i z;exact .inl ⟨z,ih _ _ _ _ h⟩
   ·rename_i z;exact .inr ⟨z,ih _ _ _ _ h⟩
   ·cases h
  |block i c=>
   simp only[DC.run]at h;split at h
   ·rename_i j st1 u;split at h
    ·rename_i q;simp only[Qb,Qs]at h;obtain⟨rfl,rfl⟩:=h;exact⟨.exit j,ih _ _ _ _ u,.inl ⟨by rw[q],rfl⟩⟩
    ·rename_i q;simp only[Qb,Qs]at h;obtain⟨rfl,rfl⟩:=h;exact⟨.exit j,ih _ _ _ _ u,.inr ⟨by simp[q],rfl⟩⟩
   ·rename_i t;refine⟨e,ih _ _ _ _ h,.inr ⟨λp=>?_,rfl⟩⟩;subst p;exact t i r h
  |loop c=>
   simp only[DC.run]at h;split at h
   ·rename_i st1 u;obtain⟨k,y⟩:=ih _ _ _ _ h;exact⟨k+1,.more k _ _ _ _ (ih _ _ _ _ u) y⟩
   ·rename_i t;refine⟨0,.stop _ _ _ (ih _ _ _ _ h) (λp=>?_)⟩;subst p;exact t r h
def NX(S:G8)(N:Nat)(e:DC)(rs:List RV)(a:Nat)(ds:List D):Option D:=
 if ds.length<=N then match DC.run S [] a e ⟨BI ds,λ_ _=>none,0⟩with
  |some (.exit _,_)=>none
  |some (_,st)=>match C_ rs st.s st.m with
   |some d=>if d.unR.calmR=true then some d.unR else none
   |none=>none
  |none=>none
 else none
def NW{P:Program}{S:G8}{f:FuncId}{N:Nat}{s:DC}{rs:List RV}(w:G8.ok P S)(k:Fn P f N s rs)(a:Nat):(Ac (NX S N s rs a)).ok P f:=by
 refine AN w k (λds r h=>?_) (λds r h=>?_)
 ·grind [NX]
 ·unfold NX at h;split at h
  ·split at h
   ·cases h
   ·rename_i u v t j;split at h
    ·rename_i d p;split at h
     ·rename_i z;simp only[Qb]at h;subst h;refine⟨u,v,aOl _ _ _ _ _ j,?_,d,p,rfl,z⟩;cases u with
      |normal=>exact .inl rfl
      |ret=>exact .inr rfl
      |exit i=>exact absurd rfl (t i)
     ·cases h
    ·cases h
   ·cases h
  ·cases h
end Go.Vd
namespace Go.Vd
open Go.Proofs Go.RowKit
inductive Tz where
 |bo|st|pt|fu|nf|mp|un
 |im (k:IntKind)
 |sl (e sz by':Nat)
 |gr (zs:List D) (fs:List (Nat×Nat))
 |ar (zs:List D) (len e:Nat)
def zT:Nat->Tz
 |3=> .im .i64
 |4=> .bo
 |5=> .im .u8
 |9=> .st
 |21=> .im .i32
 |22=> .im .u16
 |23=> .sl 9 1 16
 |26=> .sl 68 3 32
 |28=> .gr [(.slice true [] [])] [(0,26)]
 |29=> .sl 107 3 56
 |31=> .gr [(.slice true [] [])] [(0,29)]
 |33=> .gr [(.bool false),(.int .i64 0),(.str []),(.slice true [] []),(.slice true [] [])] [(0,4),(1,3),(2,9),(3,28),(4,31)]
 |34=> .pt
 |36=> .gr [.nilptr] [(0,34)]
 |38=> .gr [(.bool false),(.int .i64 0),(.str []),(.slice true [] []),(.slice true [] []),.nilptr,(.int .i64 0)] [(0,33),(5,36),(6,3)]
 |46=> .sl 3 1 8
 |47=> .sl 174 2 24
 |49=> .gr [(.int .u8 0),(.str []),(.str []),(.str []),(.int .i64 0),(.int .i64 0),(.bool false),(.slice true [] []),(.str []),(.slice true [] []),(.str [])] [(0,5),(1,9),(2,9),(3,9),(4,3),(5,3),(6,4),(7,46),(8,9),(9,47),(10,9)]
 |50=> .im .i64
 |58=> .fu
 |62=> .gr [(.int .u8 0),(.str []),(.int .i64 0)] [(0,5),(1,9),(2,3)]
 |66=> .gr [(.int .i64 0),(.bool false)] [(0,3),(1,4)]
 |68=> .gr [(.str []),(.int .i64 0),(.bool false)] [(0,9),(1,66)]
 |71=> .sl 80 3 16
 |73=> .gr [(.int .i64 0),(.bool false),(.int .i64 0),(.slice true [] [])] [(0,3),(1,4),(2,3),(3,71)]
 |80=> .gr [(.int .i64 0),(.bool false),(.bool false)] [(0,3),(1,4),(2,4)]
 |85=> .gr [(.int .u8 0),(.int .i64 0),(.int .i64 0),(.str []),(.slice true [] []),(.int .i64 0),(.bool false),(.int .i64 0),(.slice true [] []),(.bool false)] [(0,5),(1,50),(2,3),(3,9),(4,23),(5,73),(9,4)]
 |98=> .sl 167 3 40
 |100=> .gr [(.str []),(.bool false),(.str []),(.slice true [] []),(.bool false),(.int .i64 0),(.str []),(.slice true [] []),(.slice true [] [])] [(0,9),(1,4),(2,9),(3,98),(4,33)]
 |107=> .gr [(.str []),(.str []),(.slice true [] [])] [(0,9),(1,9),(2,47)]
 |108=> .sl 5 1 1
 |109=> .im .u64
 |113=> .gr [(.str []),(.str [])] [(0,9),(1,9)]
 |124=> .pt
 |126=> .gr [(.str []),(.int .i64 0),(.int .i64 0)] [(0,9),(1,3),(2,50)]
 |133=> .fu
 |136=> .gr [(.str []),(.str []),.nilptr,.nilptr,(.int .i64 0),(.int .i64 0),(.int .i64 0)] [(0,9),(1,9),(2,34),(3,34),(4,3),(5,3),(6,3)]
 |150=> .fu
 |160=> .sl 4 1 1
 |161=> .sl 23 1 24
 |163=> .gr [(.slice true [] []),(.slice true [] []),(.slice true [] []),(.slice true [] []),(.slice true [] [])] [(0,23),(1,23),(2,160),(3,23),(4,161)]
 |167=> .gr [(.int .u8 0),(.str []),(.str [])] [(0,5),(1,9),(2,9)]
 |170=> .fu
 |174=> .gr [(.str []),(.int .u8 0)] [(0,9),(1,5)]
 |176=> .ar [(.str []),(.str []),(.str []),(.str []),(.str []),(.str []),(.str []),(.str []),(.str []),(.str []),(.str []),(.str []),(.str []),(.str []),(.str []),(.str []),(.str []),(.str []),(.str []),(.str []),(.str []),(.str []),(.str []),(.str []),(.str []),(.str []),(.str []),(.str []),(.str []),(.str []),(.str []),(.str []),(.str []),(.str []),(.str []),(.str []),(.str []),(.str [])] 19 113
 |184=> .fu
 |185=> .im .u64
 |189=> .gr [] []
 |194=> .pt
 |196=> .gr [.nilptr,(.slice true [] [])] [(0,194),(1,108)]
 |223=> .fu
 |225=> .pt
 |227=> .gr [(.bool false),(.int .i64 0),(.str []),(.slice true [] []),(.slice true [] []),(.int .u8 0),(.str []),(.str []),(.str []),(.int .i64 0),(.int .i64 0),(.bool false),(.slice true [] []),(.str []),(.slice true [] []),(.str []),(.slice true [] []),(.slice true [] []),(.slice true [] []),(.slice true [] []),(.slice true [] []),(.str []),(.bool false),(.str []),(.slice true [] []),(.bool false),(.int .i64 0),(.str []),(.slice true [] []),(.slice true [] [])] [(0,33),(5,49),(16,163),(21,100)]
 |259=> .fu
 |268=> .im .u32
 |313=> .fu
 |314=> .sl 26 1 24
 |336=> .fu
 |338=> .sl 160 1 24
 |340=> .sl 161 1 24
 |343=> .fu
 |346=> .im .i64
 |354=> .sl 29 1 24
 |356=> .ar [(.slice true [] []),(.slice true [] [])] 2 47
 |363=> .fu
 |_=> .un
def Tz.z:Tz->List D
 | .bo=>[.bool false]
 | .st=>[.str []]
 | .pt=>[.nilptr]
 | .fu=>[.nilFunc]
 | .nf=>[.nilIface]
 | .mp=>[.nilMap]
 | .un=>[]
 | .im k=>[.int k 0]
 | .sl _ _ _=>[.slice true [] []]
 | .gr zs _=>zs
 | .ar zs _ _=>zs
def Tz.k:Tz->Option Nat
 | .gr zs _=>some zs.length
 | .ar zs _ _=>some zs.length
 |_=>none
def Tz.d(t:Tz):D:=match t with
 | .gr zs _=> .agg zs
 | .ar zs _ _=> .agg zs
 |t=>t.z.headD .junk
def Tz.n(t:Tz):Nat:=t.z.length
def tA:Operand->Hd
 | .tmp t=> .t t
 | .const v=> .c ((ofVal v).getD .junk)
 | .func f=> .c (.fn f [])
 | .global _=> .t 0
def lk{α:Type}(d:α)(k:Nat):List (Nat×α)->α
 |[]=>d
 |(j,x)::r=>if j=k then x else lk d k r
def fAt(t:Tz)(f:Nat):Nat×Nat:=match t with
 | .gr _ fs=>fs.getD f (0,0)
 |_=>(0,0)
def Oy:List (Nat×Nat)->List (Nat×Nat)
 |[]=>[]
 |(o,t)::r=>(match zT t with
  | .im _=>[(0,o)]
  | .bo=>[(1,o)]
  | .st=>[(2,o)]
  | .gr _ fs=>fs.map λp=>((match zT p.2 with| .im _=>0| .bo=>1|_=>2),o+p.1)
  |_=>[])++Oy r
def tE(ne:Bool)(t:Tz)(a b:Hd):DOp:=match t with
 | .bo=> .beq ne a b
 | .im _=> .bin (if ne=true then .neq else .eql) a b
 | .st=> .bin (if ne=true then .neq else .eql) a b
 | .gr _ fs=> .seq ne (Oy fs) a b
 | .sl _ _ _=> .nileq ne 0 a b
 | .pt=> .nileq ne 1 a b
 | .fu=> .nileq ne 3 a b
 | .nf=> .nileq ne 2 a b
 |_=> .stop
def tB(o:BinOp)(t:Tz)(a b:Hd):DOp:=match o with
 | .eql=>tE false t a b
 | .neq=>tE true t a b
 |o=> .bin o a b
def tC(s t:Tz)(x:Hd):DOp:=match s,t with
 | .im _,.im k=> .conv k x
 | .st,.st=> .s2s x
 | .st,.sl _ _ _=> .s2b x
 | .sl _ _ _,.st=> .b2s x
 |_,_=> .stop
def tX(t:Tz)(x i:Hd):DOp:=match t with
 | .sl _ s _=> .iaddr s x i
 | .ar _ n e=> .iadda n (zT e).n x i
 |_=> .stop
def tI(t:Tz)(x i:Hd):DOp:=match t with
 | .st=> .idxs x i
 | .ar _ n e=>(match (zT e).k with
  |none=> .idxa n x i
  |some s=> .idxm n s x i)
 |_=> .stop
def tS(t:Tz)(x:Hd)(l h:Option Hd):DOp:=match t with
 | .st=> .cuts x l h
 | .sl _ s _=> .cutl s x l h
 |_=> .stop
def tP(t:Tz)(l:List (Nat×Operand)):DOp:=match t with
 | .gr zs fs=> .build zs (l.map λp=>((fs.getD p.1 (0,0)).1,(zT (fs.getD p.1 (0,0)).2).n,tA p.2))
 | .ar zs _ e=> .build zs (l.map λp=>(p.1*(zT e).n,(zT e).n,tA p.2))
 |_=> .stop
def tG(t:Tz)(l:List (Nat×Operand)):DOp:=match t with
 | .sl e s _=> .bslice e s (l.map λp=>tA p.2)
 |_=> .stop
def tM(t:Tz)(n c:Hd):DOp:=match t with
 | .sl e s b=> .mksl e s b (zT e).d n c
 |_=> .stop
def tL(c:Callee)(xs:List Operand)(ts:List Nat):DOp:=match c with
 | .value f=> .call (tA f) (xs.map tA)
 | .builtin .len=>(match xs,ts with
  |[x],[t]=>(match zT t with| .st=> .len true (tA x)|_=> .len false (tA x))
  |_,_=> .stop)
 | .builtin .append=>(match xs,ts with
  |[x,y],[t,_]=>(match zT t with| .sl e s b=> .app e s b (tA x) (tA y)|_=> .stop)
  |_,_=> .stop)
 | .builtin .max=>(match xs with|[x,y]=> .mxm true (tA x) (tA y)|_=> .stop)
 | .builtin .min=>(match xs with|[x,y]=> .mxm false (tA x) (tA y)|_=> .stop)
 |_=> .stop
def tO:Op->DOp
 | .move x=> .mv (tA x)
 | .assign x=> .mv (tA x)
 | .pick c a b=> .pick (tA c) (tA a) (tA b)
 | .alloc t=> .alloc (zT t).z
 | .box _ x=> .box (tA x)
 | .build t l=>tP (zT t) l.toList
 | .buildSlice t _ l=>tG (zT t) l.toList
 | .load t x=> .load (zT t).k (tA x)
 | .store t x v=> .store (zT t).n (tA x) (tA v)
 | .nilCheck x=> .nilchk (tA x)
 | .binOp o t x y _=>tB o (zT t) (tA x) (tA y)
 | .unOp o _ x=> .un o (tA x)
 | .convert s t x=>tC (zT s) (zT t) (tA x)
 | .fieldAddr t x f=> .faddr (fAt (zT t) f).1 (tA x)
 | .field t x f=> .field (zT (fAt (zT t) f).2).k (fAt (zT t) f).1 (tA x)
 | .indexAddr t x i=>tX (zT t) (tA x) (tA i)
 | .index t x i=>tI (zT t) (tA x) (tA i)
 | .slice t x l h _=>tS (zT t) (tA x) (l.map tA) (h.map tA)
 | .makeInterface t x=> .mkif t (tA x)
 | .typeAssert x _ t ok=> .tass t ok (zT t).d (tA x)
 | .extract x i=> .ext i (tA x)
 | .makeSlice t n c=>tM (zT t) (tA n) (tA c)
 | .range _ x=> .range (tA x)
 | .next x _=> .next (tA x)
 | .makeFunc (.func f) _ l=> .mkfn f (l.toList.map tA)
 | .call c=>tL c.callee c.args.toList c.argTypes.toList
 |_=> .stop
def tR(o:Oper):DOper:=⟨o.dst,tO o.op,[],o.guard⟩
def kW:Code->Nat
 | .region i _ _=>i
 | .seq a _=>kW a
 | .block _ a=>kW a
 | .loop a=>kW a
 |_=>0
def U5(k:Nat):Code->Option Code
 | .seq a b=>(U5 k a).or (U5 k b)
 | .cond _ a b=>(U5 k a).or (U5 k b)
 | .block _ a=>U5 k a
 | .loop a=>if kW a=k then some a else U5 k a
 |_=>none
def tQ(ps:List (Nat×List (Nat×Nat)))(ls:List (Nat×DC)):Code->DC
 | .skip=> .skip
 | .ret=> .ret
 | .exit i=> .exit i
 | .region i ops false=> .row (ops.toList.map tR)
 | .region i ops true=> .drawn (ops.toList.map tR) (lk [] i ps)
 | .seq a b=> .seq (tQ ps ls a) (tQ ps ls b)
 | .cond c a b=> .cond (tA c) (tQ ps ls a) (tQ ps ls b)
 | .block i c=> .block i (tQ ps ls c)
 | .loop c=> .loop (lk .skip (kW c) ls)
 |_=> .skip
def tAi(k i):tA (.const (.int k i))= .c (.int k i):=rfl
def tAb(b):tA (.const (.bool b))= .c (.bool b):=rfl
def tAs(s):tA (.const (.string s))= .c (.str s.data.toList):=rfl
def tAl:tA (.const (.slice none 0 0))= .c (.slice true [] []):=rfl
def tAp:tA (.const (.pointer none))= .c .nilptr:=rfl
def tAn:tA (.const .nilIface)= .c .nilIface:=rfl
def tAu:tA (.const .nilFunc)= .c .nilFunc:=rfl
def tAg(l):tA (.const (.agg l))= .c ((ofVal (.agg l)).getD .junk):=rfl
def tAt(t):tA (.tmp t)= .t t:=rfl
def tAf(f):tA (.func f)= .c (.fn f []):=rfl
def bAt(f:Func):Code:=f.body.getD .skip
abbrev y0(f:Func)(ps:List (Nat×List (Nat×Nat)))(ls:List (Nat×DC)){c:DC}(_:tQ ps ls (bAt f)=c:=by exact Eq.trans (by conv=>lhs;whnf) (by simp only[tQ,tR,tO,tAt,tAi,tAb,tAs,tAf,tAl,tAp,tAn,tAu,tAg,zT,Tz.k,Tz.z,Tz.n,Tz.d,tL,tP,tB,tE,tX,tS,tI,tG,tC,tM,fAt,Oy,lk,ofVal,List.getD_cons_zero,List.getD_cons_succ,List.map_cons,List.map_nil,List.length_cons,List.length_nil,List.headD_cons,List.cons_append,List.nil_append,Option.map_some,Option.map_none,Option.getD_some,Bool.false_eq_true,reduceIte,Nat.reduceAdd,Nat.reduceMul,Nat.reduceEqDiff]<;>rfl)):DC:=c
abbrev y1(f:Func)(k:Nat)(ps:List (Nat×List (Nat×Nat)))(ls:List (Nat×DC)){c:DC}(_:tQ ps ls ((U5 k (bAt f)).getD .skip)=c:=by exact Eq.trans (by conv=>lhs;whnf) (by simp only[tQ,tR,tO,tAt,tAi,tAb,tAs,tAf,tAl,tAp,tAn,tAu,tAg,zT,Tz.k,Tz.z,Tz.n,Tz.d,tL,tP,tB,tE,tX,tS,tI,tG,tC,tM,fAt,Oy,lk,ofVal,List.getD_cons_zero,List.getD_cons_succ,List.map_cons,List.map_nil,List.length_cons,List.length_nil,List.headD_cons,List.cons_append,List.nil_append,Option.map_some,Option.map_none,Option.getD_some,Bool.false_eq_true,reduceIte,Nat.reduceAdd,Nat.reduceMul,Nat.reduceEqDiff]<;>rfl)):DC:=c
end Go.Vd
namespace Go.Vd
open Go.RowKit
structure rG (p:Id->Id):Prop where
 inv:∀i,p (p i)=i
 nil:p []=[]
def rG.inj{p:Id->Id}(h:rG p){i j:Id}(e:p i=p j):i=j:=by rw[←h.inv i,e,h.inv]
def rG.nn{p:Id->Id}(h:rG p){i:Id}(e:p i≠[]):i≠[]:=λhi=>e (by rw[hi,h.nil])
section
variable{P:Program}{S:G8}{f:FuncId}{N:Nat}{dc:DC}{rs:List RV}
end
section
variable{P:Program}{f:FuncId}
end
def DK(e:Nat):HF where
 rd:=λ_ _=>[]
 ex:=λds _ fr=>match ds with
  |[.slice true _ [],.int .i64 k]=>if 0<k∧k<=1000000 then some (.slice false (0::fr) [],[(0::fr,0,[.tok (e+1)])])else none
  |_=>none
def MT {P:Program} {f:FuncId} {e sz:Nat} (ga:∃fn,P.funcs[f]?=some fn∧fn.body.isSome=true∧(fn.name== "runtime.NumGoroutine")=false) (la:0<sz)
  (hi:∃ti z,P.info? e=some ti∧ti.size=sz∧ti.zero=some z∧z.cells.size=sz)
  (b:∀(w:World)(k:Nat),0<k->k<=1000000->Calls P f #[.slice none 0 0,.int .i64 (k:Int)] w λev w'=>∃c cs,c<=maxLen∧cs.size=c*sz∧ev= .returned (.slice (some ⟨w.heap.size,0,none⟩) 0 c)∧w'=w.drew.alloc (.cells cs e)):(DK e).ok P f:=by
 refine⟨ga,λds m m' fr _=>rfl,?_⟩;intro B w0 w m g fr ds vs r u o q hl ea p;simp only[DK]at p;split at p
 ·rename_i t k;split at p
  ·rename_i hc;obtain⟨ya,y⟩:=hc;simp only[Qb,Qs]at p;obtain⟨rfl,rfl⟩:=p
   match vs,hl with
   |[v0,v1],_=>
    have sa:=ea 0 _ v0 rfl rfl;have oa:=(ea 1 _ v1 rfl rfl).int_inv;subst oa;have e0:v0= .slice none 0 0:=by
     rcases sa.slice_inv with ⟨_,_,e⟩|⟨h,_⟩
     ·exact e
     ·cases h
    subst e0;have x:((k.toNat:Nat):Int)=k:=Int.toNat_of_nonneg O;have hw:=b w k.toNat O O;rw[x]at hw;refine hw.mono ?_;rintro ev w' ⟨c,cs,eb,na,rfl,rfl⟩;have ta:=q (0::fr) (QI 0 fr);have a:=(o.drew).newTok ta (e:=e) (n:=0) (c:=c) (sz:=sz) (cur:=cs) la hi (Qx _) eb na;have ma:=(Hr.drew w g).trans (Hr.newTok (w:=w.drew) (t:=0::fr) (n:=0) (c:=c) (sz:=sz) (Obj.cells cs e) o.drew.gz ta.2.2 rfl);refine⟨_,_,rfl,a,ma,?_,λi hf hn=>CU hf (λh=>hn ((QI 0 fr).trans h)) _ _ _ _ _⟩;exact aG (sz:=sz) (xs:=[]) (vs:=[]) (cur:=cs) (T:=e) (fz:=(0,0)) (heap_alloc_new w.drew _) rfl (Qx _) (λd s=>by cases s) (AX.nil _ _) (λj v hv=>by simp at hv) U (λ_=>Xl) (λd s=>by cases s)
  ·cases p
 ·cases p
def Fi:List D->Option (List D)
 |[]=>some []
 | .slice _ _ xs::r=>(Fi r).map (xs++·)
 |_=>none
def Vb:D->Bool
 | .str _=>true
 |_=>false
def nU:D->List UInt8
 | .str s=>s
 |_=>[]
def aGD{P:Program}{B:Nat}{w0 w k:World}{m:Ha}{g:Gh}{e n:Nat}{v:Value}{xs:List D}(hi:Hi P B w0 m w g)(o:Below w.heap.size w k)(q:xs.all Vb=true)(hn:n=xs.length)
  (i:k.ownsRow w.heap.size e 1 v n (xs.map λd=>Value.string ⟨(nU d).toArray⟩)) (t:v≠ .slice none 0 0):Rep k (g.over w k) (.slice false [] xs) v:=by
 obtain⟨u,y⟩:=i;rcases y with ⟨y,_⟩|⟨b,cap,cur,rfl,ba,hh,f,eb,la,z⟩
 ·exact absurd y t
 ·have c:∀d∈xs,d.cells.length=1∧d.calm=true:=by
   intro d p;have:=Qt.1 q d p;unfold Vb at this;split at this
   ·exact Y_
   ·cases this
  have ra:AX k (g.over w k) (flat xs) (xs.map λd=>Value.string ⟨(nU d).toArray⟩):=by
   clear hn u z t;induction xs with
   |nil=>exact AX.nil _ _
   |cons x r ih=>
    simp only[ZI,Q3]at q;have a:=ih q.2 (λd p=>c d (Q1 _ p))
    match x,q.1 with
    | .str s,_=>exact AX.append (AX.one (.str s) rfl) a
  refine aG (sz:=1) (vs:=xs.map λd=>Value.string ⟨(nU d).toArray⟩) hh hn f (λd p=>(c d p).1) ra (λj v t=>?_) ?_ (λh=>absurd rfl h) (λd p=>(c d p).2)
  ·grind
  ·grind [Gh.over]
mutual
def D.off(i:Id):D->Bool
 | .ptr j _=>j !=i
 | .row j _=>j !=i
 | .agg cs=>aU i cs
 | .tup cs=>aU i cs
 | .fn _ cs=>aU i cs
 |_=>true
def aU(i:Id):List D->Bool
 |[]=>true
 |d::r=>D.off i d&&aU i r
end
def IH{i:Id}:∀{l:List D},aU i l=true↔∀d∈l,d.off i=true
 |[]=>by simp[aU]
 |d::r=>by simp only[aU,Q3,IH,Zm,forall_eq_or_imp]
def UY{i:Id}{w:World}{g:Gh}{ds:List D}{vs:List Value}(hl:vs.length=ds.length)(h:∀(j:Nat) d v,ds[j]?=some d->vs[j]?=some v->d.off i=true):aU i ds=true:=by
 rw[IH];intro d p;obtain⟨j,q,rfl⟩:=QW p;exact h j _ vs[j] (Qc q) (Qc O)
def Rep.off{w:World}{g:Gh}{i:Id}(hi:g.dl i=none){d:D}{v:Value}(h:Rep w g d v):d.off i=true:=by
 induction h with
 |ptr j o b u=>
  simp only[D.off,bne_iff_ne,ne_eq];rintro rfl;rw[hi]at u;cases u
 |row j n c b q u=>
  simp only[D.off,bne_iff_ne,ne_eq];rintro rfl;rw[hi]at u;cases u
 |agg ds vs u y x ih=>simp only[D.off];exact UY (w:=w) (g:=g) u ih
 |tup ds vs u y ih=>simp only[D.off];exact UY (w:=w) (g:=g) u ih
 |fn f ds vs u y ih=>simp only[D.off];exact UY (w:=w) (g:=g) u ih
 |_=>rfl
def Rep.drop{w:World}{g g':Gh}{i:Id}(ma:∀j b,j≠i->g.dl j=some b->g'.dl j=some b)(hG:∀b,g.G b<=g'.G b)(u:∀j x,g.tb j=some x->g'.tb j=some x){d:D}{v:Value}(h:Rep w g d v)(ho:d.off i=true):Rep w g' d v:=by
 have calm:∀{d:D} {v:Value},Rep w g d v->d.calm=true->Rep w g' d v:=λh z=>h.calm_to z (λ_ _=>rfl) hG
 have cf:∀{xs:List D},(∀d∈xs,d.calm=true)->∀d∈flat xs,d.calm=true:=λh9 d p=>by
  have:=LA h9 d p
  first|exact this|(cases d<;>simp_all [D.calm,D.calm1])
 induction h with
 |junk v=>exact .junk v
 |bool b=>exact .bool b
 |int k n=>exact .int k n
 |str s=>exact .str s
 |nils t=>exact .nils _
 |slice t xs a n c sz vv q y h3 e h5 h6 h7 h8 h9 ih=>
  refine .slice t xs a n c sz vv q y h3 e h5 (λj d p=>calm (h6 j d p) (cf h9 d (Qr p))) (λh=>QR (h7 h) (hG _)) (λht=>?_) h9;obtain⟨q1,q2,q3⟩:=h8 ht;exact⟨q1,q2,u _ _ q3⟩
 |ptr j o b q=>exact .ptr j o b (ma j b (by simpa[D.off]using ho) q)
 |row j n c b m q=>exact .row j n c b m (ma j b (by simpa[D.off]using ho) q)
 |eptr ds a vv q y h3 e h5=>exact .eptr ds a vv q y (λj d p=>calm (h3 j d p) (h5 d (Qr p))) (λh=>QR (e h) (hG _)) h5
 |nilp=>exact .nilp
 |agg ds vs q y h3 ih=>
  simp only[D.off,IH]at ho;exact .agg _ vs q y (λj d v p r=>ih j d v p r (ho d (Qr p)))
 |tup ds vs q y ih=>
  simp only[D.off,IH]at ho;exact .tup _ vs q (λj d v p r=>ih j d v p r (ho d (Qr p)))
 |iface t d v q y ih=>exact .iface t d v q (calm y q)
 |nili=>exact .nili
 |fn f ds vs q y ih=>
  simp only[D.off,IH]at ho;exact .fn f _ vs q (λj d v p r=>ih j d v p r (ho d (Qr p)))
 |nilf=>exact .nilf
 |nilm=>exact .nilm
 |itp j b q=>exact .itp j b (u _ _ q)
def aDK{i:Id}{d:D}(h:d.calm1=true):d.off i=true:=by
 cases d with
 |fn f cs=>
  have:cs=[]:=by simpa[D.calm1]using h
  subst this;rfl
 |_=>first|rfl|(simp[D.calm1]at h;done)
def nK:∀{u:Hf} {m:Ha} {i:Id} {o:Nat} {d:D},(∀p∈u,∀x∈p.2.2,x.calm1=true)->Hf.app m u i o=some d->d.calm1=true∨m i o=some d
 |[],m,i,o,d,_,h=> .inr h
 |(j,k,ds)::u,m,i,o,d,hu,h=>by
  rcases nK (u:=u) (λp c=>hu p (Q1 _ c)) h with h1|h1
  ·exact .inl h1
  ·by_cases z:i=j∧k<=o∧o<k+ds.length
   ·left;have:m.put j k ds i o=ds[o-k]?:=by unfold Ha.put;rw[if_pos z]
    rw[this]at h1;exact hu _ (Q5 ..) d (Qr h1)
   ·grind [Ha.put]
def nI:∀{u:Hf} {m:Ha} {i:Id} {o:Nat},(∀p∈u,p.1≠i)->Hf.app m u i o=m i o
 |[],m,i,o,_=>rfl
 |(j,k,ds)::u,m,i,o,hu=>by
  have q:=nI (u:=u) (m:=m.put j k ds) (i:=i) (o:=o) (λp c=>hu p (Q1 _ c));have y:i≠j:=λe=>hu _ (Q5 ..) e.symm
  exact q.trans (aA y)
def pV:∀{xs:List D},(∀x∈xs,x.cells=[x])->flat xs=xs
 |[],_=>rfl
 |x::r,h=>by
  rw[flat,h x (Q5 ..),pV λy o=>h y (Q1 _ o)];rfl
section
variable{P:Program}{B:Nat}{w0 w:World}{m:Ha}{g:Gh}{S:G8}{f:FuncId}{N:Nat}{dc:DC}{rs:List RV}
def Gh.settle(g:Gh)(i:Id)(b n:Nat):Gh:={g with dl:=λj=>if j=i then none else g.dl j,G:=λr=>if r=b then n else g.G r}
theorem aGP (hS : G8.ok P S) (hf : Fn P f N dc rs) {q : HF} (z : ∀ ds m m' fr, (∀ l ∈ q.rd ds m, m l.1 l.2 = m' l.1 l.2) → q.ex ds m fr = q.ex ds m' fr)
  (hq : ∀ ds m fr r u, q.ex ds m fr = some (r, u) → (∀ i o, fr <:+ i → m i o = none) → ds.length ≤ N ∧ (∀ p ∈ u, ¬ fr <:+ p.1 ∧ ∀ x ∈ p.2.2, x.calm1 = true) ∧ ∃ xs, r = .slice false [] xs ∧ (∀ x ∈ xs, x.calm = true ∧ x.cells = [x]) ∧
   dc.wp S fr (Ea rs fun d m' => ∃ i, d = .row i xs.length ∧ fr <:+ i ∧ (∀ (j : Nat) x, xs[j]? = some x → m' i j = some x) ∧ ∀ i o x, Hf.app m u i o = some x → m' i o = some x) ⟨BI ds, m, 0⟩) : q.ok P f := by
 obtain ⟨fn, ca, h1, h2, h3, h4, h5, h6⟩ := hf.is
 refine ⟨⟨fn, h1, by rw [h2]; rfl, h3⟩, z, ?_⟩
 intro B w0 w m g fr ds vs r u hi ia hl ea aa
 have ba : ∀ k i, (k :: fr) <:+ i → B0 m g i := fun k i h => ia i ((QI k fr).trans h)
 obtain ⟨hN, hu, xs, rfl, ib, za⟩ := hq ds m fr r u aa (fun i o h => (ia i h).1 o)
 have ja := GE (ns := fr) hS hf hN hi ba hl ea za
 refine ja.mono ?_
 rintro e w' ⟨v, d, m', g', rfl, fa, ma, xa, ab, i, rfl, jb, ka, ta⟩
 obtain ⟨b, cap, rfl, qa, hb⟩ := ab.row_inv
 obtain ⟨mb, lb, cur, T, a, oa⟩ := fa.obj i b hb
 have va : g.dl i = none := (ia i jb).2.1
 have t : ∀ b', g'.G b' ≤ (g'.settle i b xs.length).G b' := by
  grind [Gh.settle]
 have db : ∀ {d : D} {v : Value}, Rep w' g' d v → d.off i = true → Rep w' (g'.settle i b xs.length) d v := fun h ho =>
  h.drop (i := i) (fun j b' hj e => by simp only [Gh.settle]; rw [if_neg hj]; exact e) t (fun _ _ e => e) ho
 have base := fa.less ta
 have y : ∀ o, Hf.app m u i o = none := fun o => by
  rw [nI (fun p hp e => (hu p hp).1 (e ▸ jb))]; exact (ia i jb).1 o
 have gb : ∀ j o d, Hf.app m u j o = some d → d.off i = true := by
  intro j o d hd
  rcases nK (fun p hp => (hu p hp).2) hd with h | h
  ·exact aDK h
  ·cases hdl : g.dl j with
   | none =>
    have hk := hi.kind j o d h hdl
    cases d <;> first | rfl | cases hk
   | some b' =>
    obtain ⟨_, _, bb, _, _, hr⟩ := hi.obj j b' hdl
    obtain ⟨v', _, _, eb⟩ := hr o d h
    exact eb.off va
 have kb : Hi P B w0 (Hf.app m u) w' (g'.settle i b xs.length) := by
  refine ⟨fa.below, fa.size, fun b' ua => ?_, fun b' ua => ?_, fun j b' hj => ?_, fun j j' b' e1 e2 => ?_, fun j o d hm hn => ?_, fun j e hm => ?_, base.tinj, base.itr.to (fun _ _ _ e => e) fun j b1 s p _ _ _ e1 e2 e3 => ?_⟩
  rotate_right
  ·have fb : b1 ≠ b := fun e' => e3 i (e' ▸ hb)
   refine ⟨rfl, rfl, by simp only [Gh.settle]; rw [if_neg fb]; exact e2, fun i' h' => ?_⟩
   simp only [Gh.settle] at h'
   split at h'
   ·cases h'
   ·exact e3 i' h'
  ·simp only [Gh.settle]
   have : b < w'.heap.size := (QF.1 a).1
   rw [if_neg O]; exact fa.gz b' ua
  ·simp only [Gh.settle]; rw [if_neg O]; exact fa.old b' ua
  ·simp only [Gh.settle] at hj
   split at hj
   ·cases hj
   ·rename_i ga
    obtain ⟨p, q, bb, T', hh, r⟩ := base.obj j b' hj
    have fb : b' ≠ b := fun e => ga (fa.inj j i b (e ▸ hj) hb)
    refine ⟨p, by simp only [Gh.settle]; rw [if_neg fb]; exact q, bb, T', hh, fun o d hm => ?_⟩
    obtain ⟨v', r1, r2, r3⟩ := r o d hm
    exact ⟨v', r1, r2, db r3 (gb j o d hm)⟩
  ·simp only [Gh.settle] at e1 e2
   split at e1
   ·cases e1
   ·split at e2
    ·cases e2
    ·exact fa.inj j j' b' e1 e2
  ·by_cases da : j = i
   ·subst da; rw [y o] at hm; cases hm
   ·simp only [Gh.settle, if_neg da] at hn
    exact base.kind j o d hm hn
  ·obtain ⟨b1, n, c, sz, na, t1, t2, t3, t4, t5, t6, t7, t8, t9, ya⟩ := base.tok j e hm
   have fb : b1 ≠ b := fun e' => ya i (e' ▸ hb)
   refine ⟨b1, n, c, sz, na, t1, t2, t3, t4, t5, t6, t7, t8, by simp only [Gh.settle]; rw [if_neg fb]; exact t9, fun i' h' => ?_⟩
   simp only [Gh.settle] at h'
   split at h'
   ·cases h'
   ·exact ya i' h'
 have cb : ∀ (j : Nat), j < xs.length → ∃ v, cur[j]? = some v ∧ v.oneCell' = true ∧ ∃ x, xs[j]? = some x ∧ Rep w' g' x v := by
  intro j hj
  obtain ⟨v', r1, r2, r3⟩ := oa j xs[j] (ka j _ (Qc hj))
  exact ⟨v', r1, r2, _, Qc hj, r3⟩
 have la : xs.length ≤ cur.size := by
  rcases Zu xs.length with h | h
  ·omega
  ·obtain ⟨v', r1, _⟩ := cb (xs.length - 1) O
   have := (QF.1 r1).1
   omega
 have ha : ∀ x ∈ xs, x.calm = true := fun x hx => (ib x hx).1
 have wa : flat xs = xs := pV fun x hx => (ib x hx).2
 have ra : AX w' (g'.settle i b xs.length) (flat xs) (cur.toList.take xs.length) := by
  rw [wa]
  refine ⟨by simp; omega, fun v hv => ?_, fun j x v hx hv => ?_⟩
  ·obtain ⟨j, hj, rfl⟩ := QW hv
   have sa : j < xs.length := Zj hj (Zg _ _)
   obtain ⟨v', r1, r2, _⟩ := cb j sa
   have : (cur.toList.take xs.length)[j]? = some v' := by rw [QK sa]; simpa using r1
   rw [Qc hj] at this
   rw [QG this]; exact r2
  ·have sa : j < xs.length := (Qq.1 hx).1
   obtain ⟨v', r1, r2, x', pa, r3⟩ := cb j sa
   rw [hx] at pa; obtain rfl := QG pa
   have : (cur.toList.take xs.length)[j]? = some v' := by rw [QK sa]; simpa using r1
   rw [hv] at this; obtain rfl := QG this
   exact r3.calm_to (ha x (Qr hx)) (fun _ _ => rfl) t
 refine ⟨_, g'.settle i b xs.length, rfl, kb, ⟨ma.cell, fun b' => QR (ma.G b') (t b'), fun j b' hj => ?_, ma.G0, ma.tb, ma.size, fun j b' hj => by (simp only [Gh.settle] at hj; split at hj; (· cases hj); exact ma.dln j b' hj), ma.tbn, ma.unt⟩, ?_, fun j hf hn => ?_⟩
 ·simp only [Gh.settle]
  rw [if_neg (fun e => by rw [e, va] at hj; cases hj)]; exact ma.dl j b' hj
 ·refine aG (sz := 1) (cur := cur) (vs := cur.toList.take xs.length) a rfl qa (fun d hd => by rw [(ib d hd).2]; rfl) ra (fun j v hv => ?_) (by simp [Gh.settle]) (fun h => absurd rfl h) ha
  have hj : j < xs.length := Zj (Qq.1 hv).1 (Zg _ _)
  rw [QK hj] at hv
  simpa using hv
 ·obtain ⟨k1, k2, k3⟩ := xa j hf hn
  refine ⟨fun o => ?_, ?_, k3⟩
  ·cases hx : Hf.app m u j o with
   | none => rfl
   | some x => exact absurd (k1 o) (by rw [ta j o x hx]; simp)
  ·simp only [Gh.settle]
   split
   ·rfl
   ·exact k2
end
end Go.Vd
namespace Go.Vd
open Go.Proofs Go.RowKit
def aK5:=y0 f322 [] []
def Pi:=y1 f294 5 [] []
def aK8:=y0 f294 [] [(5,Pi)]
def Pj:=y1 f242 3 [] []
def aLg:=y0 f242 [] [(3,Pj)]
def aLH:=y0 f174 [] []
def aMq:=y0 f107 [] []
abbrev Kq(F:List D->Option D)(n:Nat):=(Ac F).ok Qf n
def A8{P:Program}:G8.ok P (λ_=>none):=λf q h=>Xc
def D5(c:Int):Bool:=decide (97<=c∧c<=122)||decide (65<=c∧c<=90)||decide (48<=c∧c<=57)||decide (c=45)||decide (c=46)||decide (c=95)||decide (192<=c∧c<=55295)
def aFp:List D->Option D
 |[.int .i32 c]=>some (.bool (D5 c))
 |_=>none
def aSb:Kq aFp 322:=by
 refine AN (S:=λ_=>none) A8 (Aj func322:Fn Qf 322 35 aK5 [.t 2]) (λds r h=>?_) (λds r h=>?_)
 ·unfold aFp at h;split at h
  ·simp
  ·cases h
 ·unfold aFp at h;split at h
  ·rename_i c;simp only[Qb]at h;subst h;unfold aK5;simp only[↓C2,Hc,simprocAttr]
   repeat' (first|(refine aF (λh=>?_) (λh=>?_)<;>try (exfalso;omega))|(simp only[↓C2,G9,simprocAttr, *]))
   all_goals (rw[D.bool.injEq,Bool.eq_iff_iff];simp[D5];try omega)
  ·cases h
theorem Hy{x:Int}(u:-9223372036854775808<=x)(y:x<9223372036854775808):IntKind.i64.wrap x=x:=IntWalk.i64_in _ ⟨u,O⟩
def wJ{j:Nat}(h:j<4611686018427387904):IntKind.i64.wrap ((j:Int)+1)=((j+1:Nat):Int):=Hy O O
def nJ{j:Nat}:(0:Int)<=(j:Int):=O
abbrev Bs:=List UInt8
def Hs(s:Bs)(i:Nat):Nat:=(s.getD i 0).toNat
theorem OM(s:Bs)(i:Nat):Hs s i<256:=UInt8.toNat_lt _
def Eh(s:Bs)(i:Nat):Bool:=decide (i<s.length)&&decide (128<=Hs s i)&&decide (Hs s i<192)
def Ar:List (FuncId×HF)->G8
 |[],_=>none
 |(k,q)::r,f=>if f=k then some q else Ar r f
def Bv{P:Program}{l:List (FuncId×HF)}(h:G8.ok P (Ar l)):∃S:G8,G8.ok P S∧∀f q,Ar l f=some q->S f=some q:=⟨_,h,λ_ _ e=>e⟩
def Ad{P:Program}:G8.ok P (Ar []):=λf q h=>Xc
def Aa{P:Program}{k:FuncId}{q:HF}{r:List (FuncId×HF)}(h:q.ok P k)(j:G8.ok P (Ar r)):G8.ok P (Ar ((k,q)::r)):=λf g e=>by
 simp only[Ar]at e;split at e
 ·simp_all
 ·exact j f g e
def DU(s:Bs)(i:Nat):Int×Nat:=
 let b:=Hs s i
 if b<128 then(b,1)
 else if 192<=b∧b<224∧Eh s (i+1)=true∧128<=64*((b:Int)-192)+(Hs s (i+1)-128)then(64*((b:Int)-192)+(Hs s (i+1)-128),2)
 else if 224<=b∧b<240∧Eh s (i+1)=true∧Eh s (i+2)=true∧2048<=4096*((b:Int)-224)+64*(Hs s (i+1)-128)+(Hs s (i+2)-128)∧
   (4096*((b:Int)-224)+64*(Hs s (i+1)-128)+(Hs s (i+2)-128)<55296∨57343<4096*((b:Int)-224)+64*(Hs s (i+1)-128)+(Hs s (i+2)-128))then
  (4096*((b:Int)-224)+64*(Hs s (i+1)-128)+(Hs s (i+2)-128),3)
 else if 240<=b∧b<248∧Eh s (i+1)=true∧Eh s (i+2)=true∧Eh s (i+3)=true∧65536<=262144*((b:Int)-240)+4096*(Hs s (i+1)-128)+64*(Hs s (i+2)-128)+(Hs s (i+3)-128)∧
   262144*((b:Int)-240)+4096*(Hs s (i+1)-128)+64*(Hs s (i+2)-128)+(Hs s (i+3)-128)<=1114111 then
  (262144*((b:Int)-240)+4096*(Hs s (i+1)-128)+64*(Hs s (i+2)-128)+(Hs s (i+3)-128),4)
 else(-1,1)
theorem EP{s:Bs}{i:Nat}:Eh s i=true↔i<s.length∧128<=Hs s i∧Hs s i<192:=by simp[Eh,and_assoc]
def NV(s:Bs)(i:Nat):((ByteArray.mk s.toArray).get! i).toNat=Hs s i:=by
 have:(ByteArray.mk s.toArray).get! i=s.toArray[i]!:=rfl;rw[this];unfold Hs;by_cases h:i<s.length
 ·simp[h]
 ·simp[h];rfl
def aGm(s:Bs):(ByteArray.mk s.toArray).size=s.length:=XY
def aCC(s:Bs)(i:Nat)(hi:i<s.length):(Utf8.decode ⟨s.toArray⟩ i).2=(DU s i).2∧D5 ((Utf8.decode ⟨s.toArray⟩ i).1:Nat)=D5 (DU s i).1:=by
 have b0:=OM s i;have x:=OM s (i+1);have f:=OM s (i+2);have p:=OM s (i+3);have z:(decide (i+1<s.length)&&(Hs s (i+1) / 64==2))=Eh s (i+1):=by
  grind [Eh]
 have t:(decide (i+2<s.length)&&(Hs s (i+2) / 64==2))=Eh s (i+2):=by
  grind [Eh]
 have y:(decide (i+3<s.length)&&(Hs s (i+3) / 64==2))=Eh s (i+3):=by
  grind [Eh]
 have c1:=@EP s (i+1);have n:=@EP s (i+2);have o:=@EP s (i+3);unfold Utf8.decode DU;simp only[NV,aGm,Q8,z,t,y];generalize Eh s (i+1)=q at *;generalize Eh s (i+2)=v at *;generalize Eh s (i+3)=j at *;generalize Hs s i=b at *;generalize Hs s (i+1)=g at *;generalize Hs s (i+2)=a at *;generalize Hs s (i+3)=e at *;clear z t y;have w:D5 ((Utf8.runeError:Nat):Int)=D5 (-1):=V
 have u:∀c:Nat,Utf8.valid (c:Int)=true↔(c<55296∨(57344<=c∧c<=1114111)):=by
  intro c;simp[Utf8.valid];omega
 have k:(b / 32==6)=decide (192<=b∧b<224):=Yr
 have r:(b / 16==14)=decide (224<=b∧b<240):=Yr
 have m:(b / 8==30)=decide (240<=b∧b<248):=Yr
 simp only[k,r,m,Q3,decide_eq_true_eq,u,ge_iff_le];clear k r m u;cases q<;>cases v<;>cases j<;>simp only[QS,and_false,false_and,if_false,and_true,true_and,false_iff,true_iff]at c1 n o ⊢
 all_goals (repeat' split)<;>first|exact⟨rfl,w⟩|exact⟨rfl,rfl⟩|(exfalso;omega)|(refine⟨rfl,?_⟩;congr 1;omega)
def aGZ(s:Bs)(i:Nat)(hi:i<s.length):1<=(DU s i).2∧i+(DU s i).2<=s.length:=by
 grind [DU,EP]
def DE(s:Bs):Nat->Nat->Nat->Int
 |0,_,n=>if 12<n then 5 else 0
 |f+1,p,n=>if p<s.length then(if D5 (DU s p).1=true then DE s f (p+(DU s p).2) (n+1)else 4)else if 12<n then 5 else 0
def E7(s:Bs):Int:=if s=[]∨s=[46]∨s=[46,46]∨s=[45]then 4 else DE s s.length 0 0
def aFq:List D->Option D
 |[.str s]=>if s.length<=1000000 then some (.int .i64 (E7 s))else none
 |_=>none
def aG7{S:G8}{ns i:Id}{s:Bs}{e:Int}{Q:Ex->St->Prop}(o:s.length<=1000000)(a:S 322=some (Ac aFp))
  (y:∀v,e=4->v.s 2= .int .i64 4->Q .ret v) (t:∀v (n:Nat),(if 12<n then(5:Int)else 0)=e->v.s 3= .int .i64 (n:Int)->Q (.exit 0) v):
  ∀(f p n:Nat) v g,s.length<=p+f->p<=s.length->n<=p->DE s f p n=e->v.s 21= .itp i->v.m i 1=some (.it s p)->v.s 3= .int .i64 (n:Int)->Be S ns Pi Q v g:=by
 intro f;induction f with
 |zero=>
  intro p n v g k c r z q j x;refine Af Pi.eq_1 ?_;have:¬(p<s.length):=O
  simp only[↓C2,Hc,Hl,simprocAttr,j,q,this];exact t _ n z YE
 |succ f ih=>
  intro p n v g k c r z q j x;refine Af Pi.eq_1 ?_;unfold DE at z;by_cases u:p<s.length
  ·rw[if_pos u]at z;obtain⟨n1,n2⟩:=aGZ s p u;obtain⟨b,d2⟩:=aCC s p u;rw[←b]at z n1 n2;rw[←d2]at z;have hG:aFp [.int .i32 ((Utf8.decode ⟨s.toArray⟩ p).1:Nat)]=some (.bool (D5 ((Utf8.decode ⟨s.toArray⟩ p).1:Nat))):=rfl;have w:IntKind.i64.wrap ((n:Int)+1)=((n+1:Nat):Int):=Hy O O;cases ho:D5 ((Utf8.decode ⟨s.toArray⟩ p).1:Nat)with
   |true=>
    rw[if_pos ho]at z;simp only[↓C2,G9,simprocAttr,j,q,x,u,Ab a,hG,ho,w];exact ih _ _ _ _ O O O z q Yi rfl
   |false=>
    rw[if_neg (by rw[ho];simp)]at z;simp only[↓C2,G9,simprocAttr,j,q,u,Ab a,hG,ho];exact y _ z.symm rfl
  ·rw[if_neg u]at z;simp only[↓C2,Hc,Hl,simprocAttr,j,q,u];exact t _ n z YE
def aSc:Kq aFq 294:=by
 obtain⟨S,w,hl⟩:=Bv (Aa aSb Ad);have a:=hl 322 _ rfl;clear hl;refine AN (S:=S) w (Aj func294:Fn Qf 294 32 aK8 [.t 2]) (λds r h=>?_) (λds r h=>?_)
 ·unfold aFq at h;split at h
  ·simp
  ·cases h
 ·unfold aFq at h;split at h
  ·rename_i s;split at h
   ·rename_i o;simp only[Qb]at h;subst h;unfold aK8 E7;by_cases g:s=[]∨s=[46]∨s=[46,46]∨s=[45]
    ·rw[if_pos g];rcases g with rfl|rfl|rfl|rfl<;>simp only[↓C2,G9,simprocAttr,Qn,show((45:UInt8)=46)=False by decide,and_false,and_self]
    ·rw[if_neg g];obtain⟨a1,p,m,k⟩:s≠[]∧s≠[46]∧s≠[46,46]∧s≠[45]:=by simp only[not_or]at g;exact g
     have b:(s=[])=False:=eq_false a1;have c:(s=[46])=False:=eq_false p;have f:(s=[46,46])=False:=eq_false m;have d:(s=[45])=False:=eq_false k;simp only[↓C2,Hc,Hl,simprocAttr,b,c,f,d];refine aG7 (e:=DE s s.length 0 0) o a (λv u y=>?_) (λv n u y=>?_) s.length 0 0 _ _ O O O rfl rfl Yi rfl
     ·simp only[↓C2,G9,y,u]
     ·rw[←u];have c1:((12:Int)<(n:Int))=(12<n):=by simp only[eq_iff_iff];omega
      simp only[↓C2,Hc,simprocAttr,y,c1];refine aF (λh=>?_) (λh=>?_)<;>simp only[↓C2,G9,simprocAttr,h]
   ·cases h
  ·cases h
end Go.Vd
namespace Go.Vd
open Go.RowKit
def splitC(q:UInt8):Bs->List Bs
 |[]=>[[]]
 |c::r=>if c=q then []::splitC q r else match splitC q r with
  |h::t=>(c::h)::t
  |[]=>[[c]]
theorem Ga{q:UInt8}:∀s,splitC q s≠[]
 |[]=>by simp[splitC]
 |c::r=>by
  unfold splitC;split
  ·simp
  ·split<;>simp
def split_word{q:UInt8}{w:Bs}(h:q∉w):∀s,splitC q (w++q::s)=w::splitC q s:=by
 induction w with
 |nil=>intro s;simp[splitC]
 |cons c r ih=>
  intro s;simp only[Zm,not_or]at h;simp only[Zd,splitC];rw[if_neg (λe=>h.1 e.symm),ih h.2]
def split_one{q:UInt8}{w:Bs}(h:q∉w):splitC q w=[w]:=by
 induction w with
 |nil=>rfl
 |cons c r ih=>
  simp only[Zm,not_or]at h;simp only[splitC];rw[if_neg (λe=>h.1 e.symm),ih h.2]
def Gw(m:Ha)(c e:Nat)(nl:Bool)(t:Id):Prop:=nl=true∨∃j,t=[j]∧j<c∧m t 0=some (.tok (e+1))
def Gw.grow{m:Ha}{c e c' x:Nat}{nl:Bool}{t:Id}{xs:List D}(h:Gw m c e nl t)(z:c<=c'):LK (m.put [c'] 0 [.tok x]) e (.slice nl t xs):=by
 rcases h with h|⟨j,rfl,u,y⟩
 ·exact .inl h
 ·refine .inr ⟨?_,U⟩;rw[aA Xb];exact y
theorem Gw.new{m:Ha}{c e c':Nat}{nl:Bool}{t:Id}{xs:List D}(z:c'<c):Gw (Hf.app m (Bh e [c'] (.slice nl t xs))) c e false [c']:=by
 refine .inr ⟨c',rfl,z,?_⟩;cases nl<;>simp[Bh,Hf.app,BM]
def Gw.more{m:Ha}{c c' e:Nat}{nl:Bool}{t:Id}(h:Gw m c e nl t)(z:c<=c'):Gw m c' e nl t:=by
 rcases h with h|⟨j,u,y,i⟩
 ·exact .inl h
 ·exact .inr ⟨j,u,O,i⟩
def Gw.put{m:Ha}{c e c' o:Nat}{nl:Bool}{t:Id}{ds:List D}(h:Gw m c e nl t)(z:c<=c':=by omega):Gw (m.put [c'] o ds) c e nl t:=by
 rcases h with h|⟨j,rfl,u,y⟩
 ·exact .inl h
 ·refine .inr ⟨j,rfl,u,?_⟩;rw[aA Xb];exact y
def GI:List D->Option (List Bs)
 |[]=>some []
 | .str s::r=>(GI r).map (s::·)
 |_=>none
def Fx:∀{xs:List D} {l:List Bs},GI xs=some l->xs=l.map .str
 |[],l,h=>by simp only[GI,Qb]at h;subst h;rfl
 |x::r,l,h=>by
  unfold GI at h;split at h
  ·rename_i f;cases f
  ·rename_i s a f;simp only[Qn]at f;obtain⟨rfl,rfl⟩:=f;rw[Ql]at h;obtain⟨z,u,rfl⟩:=h;rw[Fx u];rfl
  ·cases h
theorem GH:∀l:List Bs,GI (l.map .str)=some l
 |[]=>rfl
 |i::r=>by simp only[Q0,GI];rw[GH r];rfl
def WF:∀l:List Bs,(l.map D.str).all Vb=true
 |[]=>rfl
 |w::r=>by
  show(Vb (.str w)&&_)=true;rw[WF r];rfl
end Go.Vd
namespace Go.Proofs
open Go.Shelf Go.RowKit Go.Lib
variable{P:Program}{ρ:Ren}
def LQ{c:UInt8}{r:List UInt8}:∀{w:List UInt8},c∉w->Lib.indexByte (w++c::r) c=w.length
 |[],_=>by simp[Lib.indexByte]
 |b::w,h=>by
  simp only[Zm,not_or]at h;have ih:=LQ (r:=r) h.2;have o:(b==c)=false:=beq_eq_false_iff_ne.2 (λe=>h.1 e.symm);have u:((w.length:Int)==-1)=false:=beq_eq_false_iff_ne.2 O;rw[Zd,Lib.indexByte,o,ih,u];simp
def splitK_eq(q:UInt8):∀(n:Nat)(s:List UInt8),s.length<=n->Lib.splitK [q] 0 (s.count q) s=Go.Vd.splitC q s:=by
 intro n;induction n with
 |zero=>intro s h;obtain rfl:s=[]:=Zo.1 O;rfl
 |succ n ih=>
  intro s h;by_cases j:q∈s
  ·obtain⟨w,r,rfl,f⟩:=List.eq_append_cons_of_mem j;have z:(w++q::r).count q=r.count q+1:=by rw[List.count_append,Zf f];simp
   have hi:Lib.index (w++q::r) [q]=w.length:=by rw[Lib.index_one];exact LQ f
   have u:¬((w.length:Int)==-1)=true:=λe=>by have:=beq_iff_eq.1 e;omega
   rw[z,Lib.splitK,hi,if_neg u,Go.Vd.split_word f,Qj];have t:(w++q::r).take (w.length+0)=w:=U
   have m:(w++q::r).drop (w.length+[q].length)=r:=by
    simp_all
   rw[t,m,ih r (by simp at h;omega)]
  ·rw[Zf j,Go.Vd.split_one j];rfl
set_option maxHeartbeats 1000000 in
def split_space(q:UInt8)(L:Lays.n146 P ρ)(b:(P.info? (ρ.t 9)).map (λi=>(i.zero,i.size,i.bytes))=some (some (.string ByteArray.empty),1,16))(s:ByteArray)(w:World)(hs:s.size<4294967281):
  Calls P (ρ.f 146) #[.string s,.string ⟨#[q]⟩] w λe m=>
   e= .returned (.slice (some ⟨w.heap.size,0,none⟩) (Lib.countB s ⟨#[q]⟩+1) (Lib.countB s ⟨#[q]⟩+1))∧m=w.alloc (.cells ((Lib.splitB ⟨#[q]⟩ 0 (Lib.countB s ⟨#[q]⟩) s).map Value.string).toArray (ρ.t 9)):=by
 have u:1<=(⟨#[q]⟩:ByteArray).size:=QA 1;have ta:=Lib.countB_le ⟨#[q]⟩ u s.size s (QA _);have v:=Lib.splitB_all ⟨#[q]⟩ u 0 _ s rfl;have c:=Any.strings_genSplit_core {L with} b s ⟨#[q]⟩ 0 (-1) (Lib.countB s ⟨#[q]⟩+1) w hs u (Qx _)
  (λx cc _=>(Any.strings_Index_one {L with} x q _).mono λe m ⟨z,p⟩=>⟨by rw[z,←Lib.index_one],p⟩)
  ((Any.strings_Count_one {L with} s q w).mono λe m ⟨z,p⟩=>⟨by rw[z];show _=Ending.returned (Value.int .i64 ((Lib.count s.data.toList [q]:Nat):Int));rw[Lib.count_one];rfl,p⟩)
  V V (by rw[if_pos V];omega)
 rw[Zv,v]at c;have y:Lib.cellsOf (Lib.splitB ⟨#[q]⟩ 0 (Lib.countB s ⟨#[q]⟩) s) (Lib.countB s ⟨#[q]⟩+1)=((Lib.splitB ⟨#[q]⟩ 0 (Lib.countB s ⟨#[q]⟩) s).map Value.string).toArray:=by rw[←v];exact Lib.cellsOf_full _
 rw[y]at c;have k:=L.t3;have n:=L.t9;have h:=L.t31;have r:=L.a3;have a9:=L.a9;have j:=L.a31;have o:=L.z3;have v3:=L.v3;have z9:=L.z9;have v9:=L.v9;have g:=L.z31;have d:=L.v31;have a:∀args w,(callFunc (ρ.f 221) args).run P w= .ok (.enter (ρ.f 221) args) w:=enters_of L.f221 Z rfl
 go_enter L.f146,Body.n146_ntmps ρ
 go_wp2_with (go_at_fn (ρ.f 221);refine c.mono ?_;rintro e m ⟨rfl,p⟩;rw[p])
 go_ret
 exact Y_
end Go.Proofs
namespace Go.Vd
open Go.RowKit Go.Proofs
def DS:List D->Option D
 |[.str s,.str [q]]=>if s.length<=1000000 then some (.slice false [] ((splitC q s).map .str))else none
 |_=>none
def CI{q:UInt8}:∀s:Bs,(splitC q s).length<=s.length+1
 |[]=>by simp[splitC]
 |c::r=>by
  have ih:=CI (q:=q) r;unfold splitC;split
  ·simp;omega
  ·grind
def aAj {P:Program} {ρ:Go.Shelf.Ren} (L:Go.Proofs.Lays.n146 P ρ) (b:(P.info? (ρ.t 9)).map (fun i=>(i.zero,i.size,i.bytes))=some (some (.string ByteArray.empty),1,16)) (ga:∃fn,P.funcs[ρ.f 146]?=some fn∧fn.body.isSome=true∧(fn.name== "runtime.NumGoroutine")=false):(Ac DS).ok P (ρ.f 146):=by
 refine⟨ga,λds m m' fr _=>rfl,?_⟩;intro B w0 w m g fr ds vs r u hi ia hl k p;simp only[Ac]at p;split at p
 ·rw[Ql]at p;obtain⟨r',j,p⟩:=p;simp only[Qs]at p;obtain⟨rfl,rfl⟩:=p
  match ds,vs,hl with
  |[d,d1],[v,v1],_=>
   have h0:=k 0 d v rfl rfl;have h1:=k 1 d1 v1 rfl rfl;have hd:∃s,d= .str s:=by
    cases d<;>first|exact⟨_,rfl⟩|(exfalso;simp[DS,D.un]at j;done)
   obtain⟨s,rfl⟩:=hd;have h:∃q,d1= .str [q]:=by
    cases d1 with
    |str z=>
     simp only[Q0,QV,D.un,DS]at j;split at j
     ·simp_all
     ·cases j
    |_=>exfalso;simp[DS,D.un]at j
   obtain⟨q,rfl⟩:=h;simp only[Q0,QV,D.un,DS]at j;split at j
   ·rename_i hc;simp only[Qb]at j;subst j;rw[h0.str_inv,h1.str_inv];have a:Lib.countB ⟨s.toArray⟩ ⟨#[q]⟩=s.count q:=by
     show Lib.count s [q]=_;exact Lib.count_one q s
    have c:(Lib.splitB ⟨#[q]⟩ 0 (s.count q) ⟨s.toArray⟩).map (·.data.toList)=splitC q s:=by
     rw[Lib.splitB_data];exact Go.Proofs.splitK_eq q s.length s (QA _)
    have y:(splitC q s).length=s.count q+1:=by
     rw[←c,Qy,←a];exact Lib.splitB_all ⟨#[q]⟩ (QA 1) 0 _ _ rfl
    refine(Go.Proofs.split_space q L b ⟨s.toArray⟩ w (by show s.length<_;omega)).mono ?_;rintro ev w' ⟨rfl,rfl⟩;have o:Below w.heap.size w (w.alloc (.cells ((Lib.splitB ⟨#[q]⟩ 0 (Lib.countB ⟨s.toArray⟩ ⟨#[q]⟩) ⟨s.toArray⟩).map Value.string).toArray (ρ.t 9))):=(Below.refl _ _).alloc (QA _) _;refine⟨_,g.over w _,rfl,hi.over o,Hr.over hi.gz o,aGD (e:=ρ.t 9) (n:=s.count q+1) hi o (WF _) (by rw[Qy,y]) ?_ U,λi hf _=>hf⟩;have pa:=CI (q:=q) s;have da:((splitC q s).map D.str).map (λd=>Value.string ⟨(nU d).toArray⟩)=(Lib.splitB ⟨#[q]⟩ 0 (s.count q) ⟨s.toArray⟩).map Value.string:=by
     rw[←c,QJ,QJ];refine QD λx _=>?_
     rfl
    rw[da,a];have ya:((Lib.splitB ⟨#[q]⟩ 0 (s.count q) ⟨s.toArray⟩).map Value.string).length=s.count q+1:=by
     rw[←y,←c];simp
    refine⟨by rw[ya];omega,.inr ⟨w.heap.size,s.count q+1,_,rfl,QA _,heap_alloc_new w _,QA _,?_,?_,?_⟩⟩
    ·rw[y]at pa;have:maxLen=9223372036854775807:=rfl;omega
    ·rw[List.size_toArray,ya];omega
    ·rw[Q9 (by rw[ya];omega)]
   ·cases j
  |[],_,_=>simp[DS]at j
  |[_],_,_=>simp[DS]at j
  |_::_::_::_,_,_=>simp[DS]at j
 ·cases p
end Go.Vd
namespace Go.Vd
open Go.Proofs Go.RowKit
def FZ:Bool->List Bs->Option Bool
 |w,[]=>some w
 |w,p::r=>if E7 p=4 then none else FZ (w||decide (E7 p=5)) r
def wI(w:Bool):Int:=if w=true then 5 else 0
def IT(l:List Bs):Int:=match FZ false l with
 |none=>4
 |some w=>if w=true then 5 else if 6<l.length then 24 else 0
def okL(l:List Bs):Prop:=l.length<=1000001∧∀p∈l,p.length<=1000000
theorem Ov(s:Bs):E7 s=4∨E7 s=5∨E7 s=0:=by
 have:∀f p n,DE s f p n=4∨DE s f p n=5∨DE s f p n=0:=by
  intro f;induction f with
  |zero=>intro p n;unfold DE;split<;>simp
  |succ f ih=>
   intro p n;unfold DE;split
   ·grind
   ·split<;>simp
 unfold E7;split
 ·simp
 ·exact this _ _ _
open Classical in
def aFr:List D->Option D
 |[.slice _ _ xs]=>match GI xs with
  |some l=>if okL l then some (.int .i64 (IT l))else none
  |none=>none
 |_=>none
def aG8{S:G8}{ns:Id}{l:List Bs}{nl:Bool}{t:Id}{e:Option Bool}{Q:Ex->St->Prop}(o:okL l)(a:S 294=some (Ac aFq))
  (pa:∀v,e=none->v.s 2= .int .i64 4->Q .ret v) (x:∀v w,e=some w->v.s 3= .int .i64 (wI w)->v.s 0= .slice nl t (l.map .str)->Q (.exit 0) v):
  ∀(n k:Nat)(w:Bool) v g,n=l.length-k->k<=l.length->FZ w (l.drop k)=e->v.s 8= .int .i64 (k:Int)->v.s 7= .int .i64 (l.length:Int)->v.s 6= .slice nl t (l.map .str)->v.s 0= .slice nl t (l.map .str)->v.s 3= .int .i64 (wI w)->Be S ns Pj Q v g:=by
 intro n;induction n with
 |zero=>
  intro k w v g c y z h8 m h6 f i;refine Af Pj.eq_1 ?_;have:¬((k:Int)<l.length):=O
  simp only[↓C2,Hc,Hl,reduceIte,Qe,h8,m,this];rw[List.drop_eq_nil_of_le O]at z;exact x _ w z.symm (by simp only[↓C2,reduceIte,Qd,i]) (by simp only[↓C2,reduceIte,Qd,f])
 |succ n ih=>
  intro k w v g c y z h8 m h6 f i;refine Af Pj.eq_1 ?_;have j:k<l.length:=O
  have u:((k:Int)<l.length):=O
  have ya:(0:Int)<=(k:Int):=O
  have q:(l.map D.str)[(k:Int).toNat]?=some (.str (l[k])):=by simp[j]
  have r:=o.1;have hw:IntKind.i64.wrap ((k:Int)+1)=((k+1:Nat):Int):=Hy O O;have b:aFq [.str l[k]]=some (.int .i64 (E7 l[k])):=if_pos (o.2 _ (Ze j));rw[Q4 j]at z;simp only[FZ]at z;rcases Ov l[k]with h|h|h
  ·rw[if_pos h]at z;rw[h]at b;simp only[↓C2,G9,simprocAttr,h8,m,h6,u,ya,q,Ab a,b];exact pa _ z.symm rfl
  ·rw[if_neg O,h]at z;rw[h]at b;have c1:((5:Int)=4)=False:=by simp
   simp only[↓C2,G9,simprocAttr,h8,m,h6,u,ya,q,Ab a,b,c1,hw];exact ih (k+1) true _ _ O O XP rfl m h6 f rfl
  ·rw[if_neg O,h]at z;rw[h]at b;have c1:((0:Int)=4)=False:=by simp
   have p:((0:Int)=5)=False:=U
   simp only[↓C2,G9,simprocAttr,h8,m,h6,u,ya,q,Ab a,b,c1,p,hw];exact ih (k+1) w _ _ O O XP rfl m h6 f i
def aSd:Kq aFr 242:=by
 obtain⟨S,g,hl⟩:=Bv (Aa aSc Ad);have a:=hl 294 _ rfl;clear hl;refine AN (S:=S) g (Aj func242:Fn Qf 242 27 aLg [.t 2]) (λds r h=>?_) (λds r h=>?_)
 ·unfold aFr at h;split at h
  ·simp
  ·cases h
 ·unfold aFr at h;split at h
  ·rename_i nl t xs;split at h
   ·rename_i l hl;obtain rfl:=Fx hl;split at h
    ·rename_i f;simp only[Qb]at h;subst h;unfold aLg IT;simp only[↓C2,Hc,simprocAttr,Qy];have o:=f.1;refine aG8 (nl:=nl) (t:=t) (e:=FZ false l) f a (λv u y=>?_) (λv w u y i=>?_) l.length 0 false _ _ O O rfl rfl rfl rfl rfl rfl
     ·simp only[↓C2,G9,y,u]
     ·have c1:((6:Int)<(l.length:Int))=(6<l.length):=by simp only[eq_iff_iff];omega
      have n:((5:Int)=0)=False:=U
      have k:((0:Int)=0)=True:=U
      cases w<;>simp only[wI,reduceIte,QS]at y<;>simp only[↓C2,G9,simprocAttr,u,y,i,Qy,c1,n];refine aF (λh=>?_) (λh=>?_)<;>simp only[↓C2,G9,simprocAttr,h,y,u]
    ·cases h
   ·cases h
  ·cases h
def Ay(s:Bs):Int:=if 64<s.length then 5 else IT (splitC 47 s)
def iS{s:Bs}(h:s.length<=1000000):okL (splitC 47 s):=by
 have:∀(s:Bs) w,w∈splitC 47 s->w.length<=s.length:=by
  intro s;induction s with
  |nil=>intro w f;simp[splitC]at f;simp[f]
  |cons c r ih=>
   intro w f;unfold splitC at f;split at f
   ·grind
   ·grind
 have y:=CI (q:=47) s;exact⟨O,λp k=>by have:=this s p k;omega⟩
end Go.Vd
namespace Go.Proofs
open Go.Shelf
def aL:Go.Shelf.Ren:=⟨λ|146=>42|221=>95|268=>162|138=>163|143=>164|195=>234|197=>235|218=>236|219=>237|260=>286|217=>287|225=>288|224=>289|267=>290|266=>319|314=>320|n=>n,λ|9=>9|31=>23|3=>3|4=>4|0=>0|105=>303|21=>21|5=>5|46=>109|119=>368|139=>371|138=>370|146=>269|51=>268|n=>n,λ|1=>0|3=>1|4=>2|n=>n⟩
def aQ:Go.Proofs.Lays.n146 Qf aL:={
 mixed:=Z
 f138:=func163.trans (congrArg some Z)
 f143:=func164.trans (congrArg some Z)
 f146:=func42.trans (congrArg some Z)
 f195:=func234.trans (congrArg some Z)
 f197:=func235.trans (congrArg some Z)
 f217:=func287.trans (congrArg some Z)
 f218:=func236.trans (congrArg some Z)
 f219:=func237.trans (congrArg some Z)
 f221:=func95.trans (congrArg some Z)
 f224:=func289.trans (congrArg some Z)
 f225:=func288.trans (congrArg some Z)
 f260:=func286.trans (congrArg some Z)
 f266:=func319.trans (congrArg some Z)
 f267:=func290.trans (congrArg some Z)
 f268:=func162.trans (congrArg some Z)
 f314:=func320.trans (congrArg some Z)
 t0:=underlying0
 a0:=isAgg0
 z0:=sizeOf0
 v0:=zeroValue0
 t3:=underlying3
 a3:=isAgg3
 z3:=sizeOf3
 v3:=zeroValue3
 t4:=underlying4
 a4:=isAgg4
 z4:=sizeOf4
 v4:=zeroValue4
 t5:=underlying5
 a5:=isAgg5
 z5:=sizeOf5
 v5:=zeroValue5
 t9:=underlying9
 a9:=isAgg9
 z9:=sizeOf9
 v9:=zeroValue9
 t21:=underlying21
 a21:=isAgg21
 z21:=sizeOf21
 v21:=zeroValue21
 t31:=underlying23
 a31:=isAgg23
 z31:=sizeOf23
 v31:=zeroValue23
 t46:=underlying109
 a46:=isAgg109
 z46:=sizeOf109
 v46:=zeroValue109
 t51:=underlying268
 a51:=isAgg268
 z51:=sizeOf268
 v51:=zeroValue268
 t105:=underlying303
 a105:=isAgg303
 z105:=sizeOf303
 v105:=zeroValue303
 t119:=underlying368
 a119:=isAgg368
 z119:=sizeOf368
 t138:=underlying370
 a138:=isAgg370
 z138:=sizeOf370
 v138:=zeroValue370
 t139:=underlying371
 a139:=isAgg371
 z139:=sizeOf371
 v139:=zeroValue371
 t146:=underlying269
 a146:=isAgg269
 z146:=sizeOf269
 v146:=zeroValue269
 g1:=Z
 g3:=Z
 g4:=Z}
end Go.Proofs
namespace Go.Vd
open Go.Proofs Go.RowKit
def aGV:Kq DS 42:=aAj aQ Z ⟨_,func42,Z,Z⟩
open Classical in
def aFu:List D->Option D
 |[.str s]=>if s.length<=1000000 then some (.tup [if Ay s=0 then .slice false [] ((splitC 47 s).map .str)else .slice true [] [],.int .i64 (Ay s)])else none
 |_=>none
def aJo{l:List Bs}{nl:Bool}{t:Id}(h:okL l):aFr [.slice nl t (l.map .str)]=some (.int .i64 (IT l)):=by
 grind [aFr,GH]
def aSo:Kq aFu 174:=by
 obtain⟨S,w,hl⟩:=Bv (Aa aGV (Aa aSd Ad));have p:=hl 42 _ rfl;have a:=hl 242 _ rfl;clear hl;refine AN (S:=S) w (Aj func174:Fn Qf 174 17 aLH [.t 2,.t 3]) (λds r h=>?_) (λds r h=>?_)
 ·unfold aFu at h;split at h
  ·simp
  ·cases h
 ·unfold aFu at h;split at h
  ·rename_i s;split at h
   ·rename_i g;simp only[Qb]at h;subst h;unfold aLH Ay;have i:((64:Int)<(s.length:Int))=(64<s.length):=by simp only[eq_iff_iff];omega
    have k:((5:Int)=0)=False:=U
    have f:DS [.str s,.str [47]]=some (.slice false [] ((splitC 47 s).map .str)):=if_pos g;have u:=aJo (nl:=false) (t:=[]) (iS g);have z:((splitC 47 s).map D.str).all D.calm=true:=by simp[Qt];intros;rfl
    by_cases b:64<s.length
    ·simp only[↓C2,G9,simprocAttr,i,b,k]
    ·simp only[↓C2,G9,simprocAttr,i,b,Ab p,Ab a,f,u];refine aF (λh=>?_) (λh=>?_)<;>simp only[↓C2,G9,simprocAttr,h,b]
   ·cases h
  ·cases h
def gV:List D->Option D
 |[.str s]=>if s.length<=1000000 then some (.int .i64 (Ay s))else none
 |_=>none
def oV:Kq gV 107:=by
 obtain⟨S,w,hl⟩:=Bv (Aa aSo Ad);have a:=hl 174 _ rfl;clear hl;refine AN (S:=S) w (Aj func107:Fn Qf 107 11 aMq [.t 2]) (λds r h=>?_) (λds r h=>?_)
 ·unfold gV at h;split at h
  ·simp
  ·cases h
 ·unfold gV at h;split at h
  ·rename_i s;split at h
   ·rename_i g;simp only[Qb]at h;subst h;have f:aFu [.str s]=some (.tup [if Ay s=0 then .slice false [] ((splitC 47 s).map .str)else .slice true [] [],.int .i64 (Ay s)]):=by
     simp only[aFu,if_pos g]
    unfold aMq;simp only[↓C2,G9,simprocAttr,Ab a,f]
   ·cases h
  ·cases h
def aMm:=y0 f161 [] []
def aLG:=y0 f54 [] []
def aLu:=y0 f109 [] []
def aMr:=y0 f106 [] []
def aLI:=y0 f173 [] []
def aLx:=y0 f105 [] []
def A7(s t:Bs):Bool:=decide (s.take t.length=t)
def dH{s t:Bs}(h:A7 s t=true):t.length<=s.length:=by
 grind [A7]
def Bj(s z:Bs):Bool:=if z=[]then decide (s≠[])else A7 s z&&A7 (s.drop z.length) [47]
def Bw(s z:Bs):Bool:=decide (s=z)||Bj s z
def Dc(s z:Bs):Bs:=if z=[]then s else if A7 s z=true then(if A7 (s.drop z.length) [47]=true then(s.drop z.length).drop 1 else s.drop z.length)else []
def yU:List D->Option D
 |[.str s,.str t]=>some (.bool (A7 s t))
 |_=>none
def aKa:Kq yU 105:=by
 refine AN (S:=λ_=>none) A8 (Aj func105:Fn Qf 105 18 aLx [.t 4]) (λds r h=>?_) (λds r h=>?_)
 ·unfold yU at h;split at h
  ·simp
  ·cases h
 ·unfold yU at h;split at h
  ·rename_i s t;simp only[Qb]at h;subst h;unfold aLx;have c1:((t.length:Int)<=(s.length:Int))=(t.length<=s.length):=by simp only[eq_iff_iff];omega
   have n:((0:Int)<=(t.length:Int))=True:=eq_true O;by_cases hl:t.length<=s.length
   ·simp only[↓C2,G9,simprocAttr,c1,n,hl,Qj,Qw,QB,and_self];simp[A7]
   ·simp only[↓C2,G9,simprocAttr,c1,hl];have:A7 s t=false:=by rw[Bool.eq_false_iff];intro h;exact hl (dH h)
    simp[this]
  ·cases h
def aJs:List D->Option D
 |[.str s,.str t]=>some (.tup [.str (if A7 s t=true then s.drop t.length else s),.bool (A7 s t)])
 |_=>none
def aSp:Kq aJs 173:=by
 obtain⟨S,w,hl⟩:=Bv (Aa aKa Ad);have a:=hl 105 _ rfl;clear hl;refine AN (S:=S) w (Aj func173:Fn Qf 173 15 aLI [.t 4,.t 5]) (λds r h=>?_) (λds r h=>?_)
 ·unfold aJs at h;split at h
  ·simp
  ·cases h
 ·unfold aJs at h;split at h
  ·rename_i s t;simp only[Qb]at h;subst h;unfold aLI;have c1:((t.length:Int)<=(s.length:Int))=(t.length<=s.length):=by simp only[eq_iff_iff];omega
   have n:((0:Int)<=(t.length:Int))=True:=eq_true O;have f:yU [.str s,.str t]=some (.bool (A7 s t)):=rfl;cases hp:A7 s t with
   |false=>simp only[↓C2,G9,simprocAttr,Ab a,f,hp]
   |true=>
    have hl:=dH hp;have e:(s.drop t.length).take (s.length-t.length)=s.drop t.length:=Q9 U;simp only[↓C2,G9,simprocAttr,Ab a,f,hp,c1,n,hl,Qj,and_self,e]
  ·cases h
def yY:List D->Option D
 |[.str s,.str t]=>some (.tup [.str (if A7 s t=true then s.drop t.length else s),.bool (A7 s t)])
 |_=>none
def aKi:Kq yY 106:=by
 obtain⟨S,w,hl⟩:=Bv (Aa aSp Ad);have a:=hl 173 _ rfl;clear hl;refine AN (S:=S) w (Aj func106:Fn Qf 106 11 aMr [.t 4,.t 5]) (λds r h=>?_) (λds r h=>?_)
 ·unfold yY at h;split at h
  ·simp
  ·cases h
 ·unfold yY at h;split at h
  ·rename_i s t;simp only[Qb]at h;subst h;unfold aMr;have f:aJs [.str s,.str t]=some (.tup [.str (if A7 s t=true then s.drop t.length else s),.bool (A7 s t)]):=rfl;simp only[↓C2,G9,simprocAttr,Ab a,f]
  ·cases h
def yT:List D->Option D
 |[.str s,.str t]=>some (.tup [.str (Dc s t),.bool (Bj s t)])
 |_=>none
def aJ8:Kq yT 109:=by
 obtain⟨S,w,hl⟩:=Bv (Aa aKi Ad);have a:=hl 106 _ rfl;clear hl;refine AN (S:=S) w (Aj func109:Fn Qf 109 25 aLu [.t 4,.t 5]) (λds r h=>?_) (λds r h=>?_)
 ·unfold yT at h;split at h
  ·simp
  ·cases h
 ·unfold yT at h;split at h
  ·rename_i s t;simp only[Qb]at h;subst h;unfold aLu;have f:∀s t,yY [.str s,.str t]=some (.tup [.str (if A7 s t=true then s.drop t.length else s),.bool (A7 s t)]):=λ_ _=>rfl
   unfold Dc Bj;by_cases p:t=[]
   ·have i:(t=[])=True:=eq_true p;simp only[↓C2,G9,simprocAttr,i]
    try simp
   ·have i:(t=[])=False:=eq_false p;cases h1:A7 s t with
    |false=>simp only[↓C2,G9,simprocAttr,i,Ab a,f,h1,Za]
    |true=>
     cases h2:A7 (s.drop t.length) [47]with
     |false=>simp only[↓C2,G9,simprocAttr,i,Ab a,f,h1,h2]
     |true=>simp only[↓C2,G9,simprocAttr,i,Ab a,f,h1,h2,Qh,Qk]
  ·cases h
def yV:List D->Option D
 |[.str s,.str t]=>some (.bool (Bj s t))
 |_=>none
def aKc:Kq yV 54:=by
 obtain⟨S,w,hl⟩:=Bv (Aa aJ8 Ad);have a:=hl 109 _ rfl;clear hl;refine AN (S:=S) w (Aj func54:Fn Qf 54 14 aLG [.t 4]) (λds r h=>?_) (λds r h=>?_)
 ·unfold yV at h;split at h
  ·simp
  ·cases h
 ·unfold yV at h;split at h
  ·rename_i s t;simp only[Qb]at h;subst h;unfold aLG;have f:yT [.str s,.str t]=some (.tup [.str (Dc s t),.bool (Bj s t)]):=rfl;simp only[↓C2,G9,simprocAttr,Ab a,f]
  ·cases h
def yX:List D->Option D
 |[.str s,.str t]=>some (.bool (Bw s t))
 |_=>none
def aKh:Kq yX 161:=by
 obtain⟨S,w,hl⟩:=Bv (Aa aKc Ad);have d:=hl 54 _ rfl;clear hl;refine AN (S:=S) w (Aj func161:Fn Qf 161 13 aMm [.t 4]) (λds r h=>?_) (λds r h=>?_)
 ·unfold yX at h;split at h
  ·simp
  ·cases h
 ·unfold yX at h;split at h
  ·rename_i s t;simp only[Qb]at h;subst h;unfold aMm;have f:yV [.str s,.str t]=some (.bool (Bj s t)):=rfl;unfold Bw;by_cases g:s=t
   ·have k:(s=t)=True:=eq_true g;simp only[↓C2,G9,simprocAttr,k]
    try simp
   ·have k:(s=t)=False:=eq_false g;simp only[↓C2,G9,simprocAttr,k,Ab d,f]
    try simp
  ·cases h
def aUZ:=y0 f264 [] []
def Pu:=y1 f108 4 [] []
def aMp:=y0 f108 [] [(4,Pu)]
def aUE:=y0 f53 [] []
def aMi:=y0 f199 [] []
def aLD:=y0 f239 [] []
def aUW:=y0 f291 [] []
def aLf:=y0 f292 [] []
def aHR:=y1 f321 2 [] []
def aUU:=y0 f321 [] [(2,aHR)]
def Pt:=y1 f168 4 [] []
def aMh:=y0 f168 [] [(4,Pt)]
def aUG:=y0 f41 [] []
def Pv:=y1 f94 3 [] []
def aMs:=y0 f94 [] [(3,Pv)]
def Pw:=y1 f93 3 [] []
def aMt:=y0 f93 [] [(3,Pw)]
def aMg:=y0 f307 [] []
def PC:=y1 f254 7 [(9,[(6,2)])] []
def PB:=y1 f254 4 [] [(7,PC)]
def aM1:=y0 f254 [] [(4,PB)]
def I2(op:Int):Int:=if op=9∨op=14∨op=18 then 1 else if op=10∨op=15 then 2 else if op=11∨op=12 then 4 else if op=13∨op=16 then 8 else if op=17 then 16 else if 3<=op∧op<=8 then 32 else 0
def Eb(op:Int):Bool:=decide (4<=op∧op<=18∧op≠9∧op≠14∧op≠17)
def F27:List D->Option D
 |[.int .u8 op]=>some (.int .u8 (I2 op))
 |_=>none
def aWC:Kq F27 264:=by
 refine AN (S:=λ_=>none) A8 (Aj func264:Fn Qf 264 26 aUZ [.t 2]) (λds r h=>?_) (λds r h=>?_)
 ·unfold F27 at h;split at h
  ·simp
  ·cases h
 ·unfold F27 at h;split at h
  ·rename_i op;simp only[Qb]at h;subst h;unfold aUZ;simp only[↓C2,Hc,simprocAttr]
   repeat' (first|(refine aF (λh=>?_) (λh=>?_)<;>try (exfalso;omega))|(simp only[↓C2,G9,simprocAttr,h]))
   all_goals (first|rfl|(rw[D.int.injEq];refine⟨rfl,?_⟩;unfold I2;(repeat' split)<;>first|rfl|(exfalso;omega)))
  ·cases h
def D7(c:Int):Bool:=decide (97<=c∧c<=122)||decide (48<=c∧c<=57)
def MK(s:Bs):Nat->Nat->Bool
 |0,_=>true
 |f+1,p=>if p<s.length then D7 (Hs s p)&&MK s f (p+1)else true
def BX(s:Bs):Bool:=decide (1<=s.length)&&decide (s.length<=8)&&MK s s.length 0
def aCD(s:Bs)(p:Nat)(c:p<s.length):D7 ((Utf8.decode ⟨s.toArray⟩ p).1:Nat)=D7 (Hs s p)∧(D7 (Hs s p)=true->(Utf8.decode ⟨s.toArray⟩ p).2=1):=by
 have k:=OM s p;by_cases h:Hs s p<128
 ·have:Utf8.decode ⟨s.toArray⟩ p=(Hs s p,1):=by
   unfold Utf8.decode;simp only[NV,Q8,h,if_true]
  rw[this];exact⟨rfl,λ_=>rfl⟩
 ·have u:D7 (Hs s p)=false:=by simp[D7];omega
  have y:128<=(Utf8.decode ⟨s.toArray⟩ p).1:=by
   unfold Utf8.decode;simp only[NV,Q8,h,if_false]
   (repeat' split)<;>simp_all [Utf8.runeError]<;>omega
  refine⟨?_,λe=>by rw[u]at e;cases e⟩;rw[u];simp[D7];omega
def aHf{S:G8}{ns i:Id}{s:Bs}{Q:Ex->St->Prop}{e:Bool}(a:∀v,e=false->v.s 2= .bool false->Q .ret v)(t:∀v,e=true->Q (.exit 0) v):
  ∀(f p:Nat) v g,s.length<=p+f->MK s f p=e->v.s 13= .itp i->v.m i 1=some (.it s p)->Be S ns Pu Q v g:=by
 intro f;induction f with
 |zero=>
  intro p v g k z q j;refine Af Pu.eq_1 ?_;have:¬(p<s.length):=O
  simp only[↓C2,Hc,Hl,simprocAttr,j,q,this];exact t _ z.symm
 |succ f ih=>
  intro p v g k z q j;refine Af Pu.eq_1 ?_;unfold MK at z;by_cases u:p<s.length
  ·rw[if_pos u]at z;obtain⟨b,y⟩:=aCD s p u;cases ho:D7 (Hs s p)with
   |true=>
    rw[ho,ZG]at z;have w:=y ho;rw[ho]at b;have x:(97<=((Utf8.decode ⟨s.toArray⟩ p).1:Int)∧((Utf8.decode ⟨s.toArray⟩ p).1:Int)<=122)∨(48<=((Utf8.decode ⟨s.toArray⟩ p).1:Int)∧((Utf8.decode ⟨s.toArray⟩ p).1:Int)<=57):=by simpa[D7]using b
    have c:v.m.put i 1 [.it s (p+(Utf8.decode ⟨s.toArray⟩ p).2)] i 1=some (.it s (p+1)):=by rw[Ed,if_pos ⟨rfl,rfl⟩,w]
    simp only[↓C2,Hc,Hl,simprocAttr,j,q,u]
    repeat' (first|(refine aF (λh=>?_) (λh=>?_)<;>try (exfalso;omega))|(simp only[↓C2,Hc,Hl,simprocAttr,h]))
    all_goals (first|exact ih _ _ _ O z q c|(exfalso;omega))
   |false=>
    rw[ho,Za]at z;rw[ho]at b;have x:¬((97<=((Utf8.decode ⟨s.toArray⟩ p).1:Int)∧((Utf8.decode ⟨s.toArray⟩ p).1:Int)<=122)∨(48<=((Utf8.decode ⟨s.toArray⟩ p).1:Int)∧((Utf8.decode ⟨s.toArray⟩ p).1:Int)<=57)):=by
     grind [D7]
    simp only[↓C2,Hc,Hl,simprocAttr,j,q,u]
    repeat' (first|(refine aF (λh=>?_) (λh=>?_)<;>try (exfalso;omega))|(simp only[↓C2,Hc,Hl,simprocAttr,h]))
    all_goals (first|exact a _ z.symm rfl|(exfalso;omega))
  ·rw[if_neg u]at z;simp only[↓C2,Hc,Hl,simprocAttr,j,q,u];exact t _ z.symm
def aJD:List D->Option D
 |[.str s]=>some (.bool (BX s))
 |_=>none
def aSE:Kq aJD 108:=by
 refine AN (S:=λ_=>none) A8 (Aj func108:Fn Qf 108 31 aMp [.t 2]) (λds r h=>?_) (λds r h=>?_)
 ·unfold aJD at h;split at h
  ·simp
  ·cases h
 ·unfold aJD at h;split at h
  ·rename_i s;simp only[Qb]at h;subst h;unfold aMp;unfold BX;have c1:((8:Int)<(s.length:Int))=(8<s.length):=by simp only[eq_iff_iff];omega
   by_cases f:s=[]
   ·subst f;simp only[↓C2,G9,simprocAttr]
    try simp
   ·have x:(s=[])=False:=eq_false f;have hl:1<=s.length:=by cases s with|nil=>exact absurd rfl f|cons _ _=>simp
    by_cases o:8<s.length
    ·simp only[↓C2,G9,simprocAttr,x,c1,o];simp;omega
    ·simp only[↓C2,Hc,Hl,simprocAttr,x,c1,o];have w:(decide (1<=s.length)&&decide (s.length<=8)&&MK s s.length 0)=MK s s.length 0:=by simp;omega
     rw[w];refine aHf (e:=MK s s.length 0) (λv u y=>?_) (λv u=>?_) s.length 0 _ _ O rfl rfl Yi
     ·simp only[↓C2,G9,u,y]
     ·simp only[↓C2,G9,reduceIte,Qe,u]
  ·cases h
theorem Ah{m:Ha}{i f:Id}{o o':Nat}{ds:List D}:m.put i o ds f o'=if f=i∧o<=o'∧o'<o+ds.length then ds[o'-o]? else m f o':=rfl
def Av{m:Ha}{i:Id}{o:Nat}:Ag m i o 0=some []:=rfl
def Aw{m:Ha}{i:Id}{o n:Nat}:Ag m i o (n+1)=(m i o).bind λd=>(Ag m i (o+1) n).map (d::·):=by
 show(match m i o with|some d=>_|none=>none)=_;cases m i o<;>rfl
def Bx{s:Nat->D}{m:Ha}{k:Option Nat}{a:Nat}:C_ [.cell k a] s m=cX m k (s a):=by
 simp only[C_,H9,RV.of];cases cX m k (s a)<;>rfl
def AW{m:Ha}{n:Nat}{i:Id}{o:Nat}:cX m (some n) (.ptr i o)=(Ag m i o n).map .agg:=rfl
def Bl(k:Int)(name:Bs)(n:Int):Int:=
 if k=1 then(if n=0∧Ay name=0 then 0 else 2)else if k=2 then(if 1<=n∧n<=30∧Ay name=0 then 0 else 2)else if k=3 then(if n=0∧BX name=true then 0 else 2)
 else if k=4∨k=5 then(if n=0∧name=[]then 0 else 2)else 22
def F98:List D->Option D
 |[.agg [.int .u8 k,.str name,.int .i64 n]]=>if name.length<=1000000 then some (.int .i64 (Bl k name n))else none
 |_=>none
def aGU:Kq F98 53:=by
 obtain⟨S,w,hl⟩:=Bv (Aa oV (Aa aSE Ad));have o:=hl 107 _ rfl;have c:=hl 108 _ rfl;clear hl;refine AN (S:=S) w (Aj func53:Fn Qf 53 53 aUE [.t 2]) (λds r h=>?_) (λds r h=>?_)
 ·unfold F98 at h;split at h
  ·simp
  ·cases h
 ·unfold F98 at h;split at h
  ·rename_i k name n;split at h
   ·rename_i z;simp only[Qb]at h;subst h;unfold aUE;have a:gV [.str name]=some (.int .i64 (Ay name)):=if_pos z;have d:aJD [.str name]=some (.bool (BX name)):=rfl;unfold Bl;generalize Ay name=e at *;generalize BX name=b at *;simp only[↓C2,Hc,H_,simprocAttr,Ah,Qx,Qw,Qh,Qk,Qm,Qg,QM,and_self]
    repeat' (first|(refine aF (λh=>?_) (λh=>?_)<;>try (exfalso;omega))|(simp only[↓C2,Ho,simprocAttr,h,Ah,Ab o,Ab c,a,d]))
    all_goals (first|rfl|(rw[D.int.injEq];refine⟨rfl,?_⟩;(repeat' split)<;>first|rfl|(exfalso;simp_all;done)|(exfalso;simp_all;omega)))
   ·cases h
  ·cases h
def aFx:List D->Option D
 |[.str s]=>if s.length<=1000000 then some (.bool (BX s))else none
 |_=>none
def aSA:Kq aFx 199:=by
 obtain⟨S,w,hl⟩:=Bv (Aa aGU Ad);have a:=hl 53 _ rfl;clear hl;refine AN (S:=S) w (Aj func199:Fn Qf 199 7 aMi [.t 2]) (λds r h=>?_) (λds r h=>?_)
 ·unfold aFx at h;split at h
  ·simp
  ·cases h
 ·unfold aFx at h;split at h
  ·rename_i s;split at h
   ·rename_i z;simp only[Qb]at h;subst h;unfold aMi;have f:F98 [.agg [.int .u8 3,.str s,.int .i64 0]]=some (.int .i64 (Bl 3 s 0)):=if_pos z;have e:Bl 3 s 0=if BX s=true then 0 else 2:=by simp[Bl]
    simp only[↓C2,G9,simprocAttr,FE,Qz,Qu,QE,QB,Zd,Q_,and_self,Cg,Ab a,f,e,Qh,Qk,Qm,and_self];cases BX s<;>simp
   ·cases h
  ·cases h
def F_(m:Ha):List D->Option D
 |[]=>some .junk
 |[.ptr i 0]=>m i 0
 |_=>none
def aH1:List D->List Loc
 |[.ptr i 0]=>[(i,0)]
 |_=>[]
theorem RR{m m':Ha}{caps:List D}(h:∀l∈aH1 caps,m l.1 l.2=m' l.1 l.2):F_ m caps=F_ m' caps:=by
 unfold F_;split
 ·rfl
 ·simp_all [aH1]
 ·rfl
def I1(F:D->D->Option D):HF where
 rd:=λds _=>aH1 ds.tail
 ex:=λds m _=>match ds with
  |x::caps=>(F_ m caps).bind λc=>(F c x).map λd=>(d,[])
  |[]=>none
def FP:List (Option D)->Option (List Bool)
 |[]=>some []
 |some (.bool b)::r=>(FP r).map (b::·)
 |_=>none
def Bc(l:List Bool):Int:=match l.findIdx? id with
 |some k=>k
 |none=>-1
def GU(l:List Bool):decide (0<=Bc l)=l.any id:=by
 grind [Bc]
def qC:Option Nat->D->Bool
 |none,.agg _=>false
 |none,_=>true
 |some n,.agg cs=>cs.length==n
 |some _,_=>false
def fnR(ds:List D):List Loc:=match ds with
 |[_,.fn _ caps]=>aH1 caps
 |_=>[]
def FY(g:FuncId)(k:Option Nat)(F:D->D->Option D):HF where
 rd:=λds _=>fnR ds
 ex:=λds m _=>match ds with
  |[.slice _ _ xs,.fn g' caps]=>if g'=g∧xs.length<=1000000∧xs.all (qC k)=true then(F_ m caps).bind λc=>(FP (xs.map (F c))).map λbs=>(.int .i64 (Bc bs),[])else none
  |_=>none
def iA(g:FuncId)(k:Option Nat)(F:D->D->Option D):HF where
 rd:=λds _=>fnR ds
 ex:=λds m _=>match ds with
  |[.slice _ _ xs,.fn g' caps]=>if g'=g∧xs.length<=1000000∧xs.all (qC k)=true then(F_ m caps).bind λc=>(FP (xs.map (F c))).map λbs=>(.bool (bs.any id),[])else none
  |_=>none
def aHM(sz:Nat)(k:Option Nat):DC:=(.seq (.row [⟨some 9,.bin .lss (.t 8) (.t 7),[],none⟩]) (.seq (.cond (.t 9) .skip (.exit 0)) (.seq (.block 1 (.seq (.row [⟨some 10,.mv (.t 8),[],none⟩,⟨some 5,.mv (.t 10),[],none⟩]) (.seq (.row [⟨some 11,.mv (.t 1),[],none⟩,⟨some 12,.mv (.t 0),[],none⟩,⟨some 13,.mv (.t 5),[],none⟩,⟨some 14,.iaddr sz (.t 12) (.t 13),[],none⟩,⟨some 15,.load k (.t 14),[],none⟩,⟨some 16,.call (.t 11) [(.t 15)],[],none⟩]) (.cond (.t 16) (.seq (.row [⟨some 17,.mv (.t 5),[],none⟩,⟨some 4,.mv (.t 17),[],none⟩]) .ret) .skip)))) (.row [⟨some 18,.bin .add (.t 8) (.c (.int .i64 1)),[],none⟩,⟨some 8,.mv (.t 18),[],none⟩]))))
def dcI(sz:Nat)(k:Option Nat):DC:=(.seq (.row [⟨some 4,.mv (.c (.int .i64 0)),[],none⟩]) (.seq (.seq (.row [⟨some 6,.mv (.t 0),[],none⟩,⟨some 7,.len false (.t 6),[],none⟩,⟨some 8,.mv (.c (.int .i64 0)),[],none⟩]) (.block 0 (.loop (aHM sz k)))) (.seq (.row [⟨some 4,.mv (.c (.int .i64 (-1))),[],none⟩]) .ret)))
def aHN(f:FuncId):DC:=(.seq (.row [⟨some 4,.mv (.c (.bool false)),[],none⟩]) (.seq (.row [⟨some 5,.mv (.t 0),[],none⟩,⟨some 6,.mv (.t 1),[],none⟩,⟨some 7,.call (.c (.fn f [])) [(.t 5),(.t 6)],[],none⟩,⟨some 8,.bin .geq (.t 7) (.c (.int .i64 0)),[],none⟩,⟨some 4,.mv (.t 8),[],none⟩]) .ret))
def aOf(sz:Nat):Option Nat->Prop
 |none=>sz=1
 |some n=>sz=n
def aPO{sz:Nat}{k:Option Nat}(h:aOf sz k){x:D}(q:qC k x=true):x.cells.length=sz:=by
 cases k with
 |none=>cases x<;>first|(cases q;done)|exact h.symm
 |some n=>cases x<;>first|(cases q;done)|(simp only[qC,beq_iff_eq]at q;exact q.trans h.symm)
def aCq{m:Ha}{k:Option Nat}{x:D}{K:D->Hf->Prop}{t:Tag (m,K)}(q:qC k x=true):Rh k (.eptr x.cells) m K t=K x []:=by
 cases k with
 |none=>cases x<;>first|(cases q;done)|(simp only[Rg,D.cells,QP,A6])
 |some n=>
  cases x<;>first|(cases q;done)|skip
  rename_i cs;simp only[qC,beq_iff_eq]at q;subst q;simp only[OC,D.cells,QA,Ug,Zp]
def Nj:∀{l:List (Option D)} {bs:List Bool},FP l=some bs->l=bs.map λb=>some (.bool b)
 |[],bs,h=>by simp only[FP,Qb]at h;subst h;rfl
 |x::r,bs,h=>by
  unfold FP at h;split at h
  ·rename_i e;cases e
  ·rename_i b f e;cases e;rw[Ql]at h;obtain⟨a,u,rfl⟩:=h;rw[Nj u];rfl
  ·cases h
def aTt{S:G8}{ns:Id}{sz:Nat}{k:Option Nat}{g:FuncId}{F:D->D->Option D}{xs caps:List D}{c:D}{bs:List Bool}{nl:Bool}{t:Id}{m:Ha}{Q:Ex->St->Prop}(la:aOf sz k)(hg:S g=some (I1 F))(o:xs.length<=1000000)(y:xs.all (qC k)=true)
  (qa:F_ m caps=some c) (ta:xs.map (F c)=bs.map λb=>some (.bool b))
  (a:∀(j:Nat) v,v.m=m->bs.findIdx? id=some j->v.s 4= .int .i64 (j:Int)->Q .ret v) (x:∀v,v.m=m->bs.findIdx? id=none->Q (.exit 0) v):
  ∀(n j:Nat) v tg,n=xs.length-j->j<=xs.length->(∀i,i<j->bs[i]?=some false)->v.m=m->v.s 8= .int .i64 (j:Int)->v.s 7= .int .i64 (xs.length:Int)->v.s 0= .slice nl t xs->v.s 1= .fn g caps->Be S ns (aHM sz k) Q v tg:=by
 intro n;have w:bs.length=xs.length:=by simpa using (congrArg ZQ ta).symm
 induction n with
 |zero=>
  intro j v tg hn hj ja hm h8 h7 f u;refine Af (aHM.eq_1 sz k) ?_;have:¬((j:Int)<xs.length):=O
  simp only[↓C2,Hc,Hl,reduceIte,Qe,h8,h7,this];refine x _ hm (Zl.2 λb ua=>?_);obtain⟨i,hi,rfl⟩:=QW ua;have:=ja i O;rw[Qc hi]at this;simpa using QG this
 |succ n ih=>
  intro j v tg hn hj ja hm h8 h7 f u;refine Af (aHM.eq_1 sz k) ?_;have r:j<xs.length:=O
  have da:((j:Int)<xs.length):=O
  have oa:=nJ (j:=j);have q:xs[j]?=some xs[j]:=Qc r;have p:qC k xs[j]=true:=Qt.1 y _ (Ze r);have na:=aPO la p;have hw:=wJ (j:=j) O;obtain⟨ma,ia,ea⟩:=v;simp only at hm h8 h7 f u;subst hm;have hF:F c xs[j]=some (.bool (bs[j]' O)):=by
   have e:=congrArg (·[j]?) ta;simp only[QN,q,QO,Qc (show j<bs.length by omega)]at e;exact QG e
  have z:∀fr,(I1 F).ex (xs[j]::caps) ia fr=some (.bool (bs[j]' O),[]):=by
   grind [I1]
  simp only[↓C2,Hc,Hl,simprocAttr,h8,h7,f,u,da,oa,Qj,q,na,aCq p,AE hg,z];cases hbj:bs[j]' O with
  |true=>
   simp only[↓C2,Hc,simprocAttr];refine a j _ rfl ?_ rfl;rw[QT];refine⟨O,by simp[hbj],λi hi=>?_⟩;have:=ja i hi;rw[Qc O]at this;simp[QG this]
  |false=>
   simp only[↓C2,Hc,simprocAttr,h8,hw];refine ih (j+1) _ _ O O (λi hi=>?_) rfl rfl h7 f u;rcases Nat.lt_or_eq_of_le (Nat.le_of_lt_succ hi)with hi|rfl
   ·exact ja i hi
   ·simp_all
def TH{ds:List D}{m m':Ha}(h:∀l∈fnR ds,m l.1 l.2=m' l.1 l.2){x:D}{g:FuncId}{caps:List D}(e:ds=[x,.fn g caps]):F_ m caps=F_ m' caps:=by
 subst e;exact RR h
def NS{P:Program}{f g:FuncId}{sz:Nat}{k:Option Nat}{F:D->D->Option D}{N:Nat}(b:2<=N)(a:Fn P f N (dcI sz k) [.t 4])(la:aOf sz k)(hg:(I1 F).ok P g):(FY g k F).ok P f:=by
 have e:G8.ok P (Ar [(g,I1 F)]):=Aa hg Ad;have p:Ar [(g,I1 F)] g=some (I1 F):=by simp[Ar]
 generalize Ar [(g,I1 F)]=S at e p;refine NK e a (λds m m' fr h=>?_) (λds m fr r u z _=>?_)
 ·simp only[FY]at h ⊢;split
  ·rename_i nl t xs g' caps;rw[TH h rfl]
  ·rfl
 ·simp only[FY]at z;split at z
  ·rename_i nl t xs g' caps;split at z
   ·rename_i n;obtain⟨rfl,hb,ba⟩:=n;rw[QC]at z;obtain⟨c,s,z⟩:=z;rw[Ql]at z;obtain⟨bs,ta,z⟩:=z;simp only[Qs]at z;obtain⟨rfl,rfl⟩:=z;refine⟨b,?_⟩;unfold dcI;simp only[↓C2,Hc,simprocAttr];refine aTt (xs:=xs) (caps:=caps) (c:=c) (bs:=bs) (nl:=nl) (t:=t) (m:=m) la p hb ba s (Nj ta) (λj v w q y=>?_) (λv w q=>?_) xs.length 0 _ _ O O U rfl rfl rfl rfl rfl
    ·simp only[↓C2,Hc,Hl,y,Bc,q,w];exact λi o x h=>h
    ·simp only[↓C2,Hc,Hl,reduceIte,Qe,Bc,q,w];exact λi o x h=>h
   ·cases z
  ·cases z
def qQ{P:Program}{f h g:FuncId}{k:Option Nat}{F:D->D->Option D}{N:Nat}(b:2<=N)(a:Fn P f N (aHN h) [.t 4])(hi:(FY g k F).ok P h):(iA g k F).ok P f:=by
 have w:G8.ok P (Ar [(h,FY g k F)]):=Aa hi Ad;have v:Ar [(h,FY g k F)] h=some (FY g k F):=by simp[Ar]
 generalize Ar [(h,FY g k F)]=S at w v;refine NK w a (λds m m' fr h=>?_) (λds m fr r u z _=>?_)
 ·simp only[iA]at h ⊢;split
  ·rename_i nl t xs q caps;rw[TH h rfl]
  ·rfl
 ·simp only[iA]at z;split at z
  ·rename_i nl t xs q caps;split at z
   ·rename_i n;rw[QC]at z;obtain⟨c,y,z⟩:=z;rw[Ql]at z;obtain⟨bs,ta,z⟩:=z;simp only[Qs]at z;obtain⟨rfl,rfl⟩:=z;refine⟨b,?_⟩;have p:∀fr,(FY g k F).ex [.slice nl t xs,.fn q caps] m fr=some (.int .i64 (Bc bs),[]):=by
     grind [FY]
    unfold aHN;simp only[↓C2,Hc,Hl,simprocAttr,AE v,p];exact⟨by rw[←GU],λi o x h=>h⟩
   ·cases z
  ·cases z
def aMo:=y0 f248 [] []
def aMn:=y0 f249 [] []
def aM9:=y0 f187 [] []
def aM8:=y0 f188 [] []
def N4{S:G8}{P:Program}{f:FuncId}{N:Nat}{e:DC}{rs:List RV}{F:D->D->Option D}(g:G8.ok P S)(a:Fn P f N e rs)
  (v:∀x caps m fr c d,F_ m caps=some c->F c x=some d->(∀k i o,(k::fr)<:+i->m i o=none)->caps.length<=1->(caps.length+1<=N)∧e.wp S fr (Ea rs λn m'=>n=d∧∀i o y,m i o=some y->m' i o=some y) ⟨BI (x::caps),m,0⟩):(I1 F).ok P f:=by
 refine NK g a (λds m m' fr h=>?_) (λds m fr r u z j=>?_)
 ·grind [I1,RR]
 ·simp only[I1]at z;split at z
  ·rename_i x caps;rw[QC]at z;obtain⟨c,s,z⟩:=z;rw[Ql]at z;obtain⟨d,p,z⟩:=z;simp only[Qs]at z;obtain⟨rfl,rfl⟩:=z;have hl:caps.length<=1:=by
    unfold F_ at s;split at s
    ·simp
    ·simp
    ·cases s
   obtain⟨q,w⟩:=v x caps m fr c d s p j hl;exact⟨q,w⟩
  ·cases z
def RQ{m:Ha}{caps:List D}{p:Bs}(h:F_ m caps=some (.str p)):∃i,caps=[.ptr i 0]∧m i 0=some (.str p):=by
 unfold F_ at h;split at h
 ·cases h
 ·exact⟨_,rfl,h⟩
 ·cases h
def yO:D->D->Option D
 | .str p,.agg [.str q,.int .u8 _]=>some (.bool (decide (q=p)))
 |_,_=>none
def aFi:D->D->Option D
 | .str p,.agg [.str q,.int .i64 _,.bool _]=>some (.bool (decide (q=p)))
 |_,_=>none
def yR:D->D->Option D
 | .str p,.str q=>some (.bool (Bw p q||Bw q p))
 |_,_=>none
def aPW:(I1 yO).ok Qf 292:=by
 refine N4 (S:=λ_=>none) A8 (Aj func292:Fn Qf 292 9 aLf [.t 3]) (λx caps m fr c d s f j hl=>⟨O,?_⟩);unfold yO at f;split at f
 ·rename_i p q k;simp only[Qb]at f;subst f;obtain⟨i,rfl,n⟩:=RQ s;have hi:i≠0::fr:=by rintro rfl;have:=j 0 (0::fr) 0 (Zq _);rw[n]at this;cases this
  unfold aLf;simp only[↓C2,G9,simprocAttr,n,hi,Ah,Qx,Qw,Qh,Qk,Qm,Qg,and_self];intro i o y h;split
  ·grind
  ·exact h
 ·cases f
def aP0:(I1 aFi).ok Qf 248:=by
 refine N4 (S:=λ_=>none) A8 (Aj func248:Fn Qf 248 8 aMo [.t 3]) (λx caps m fr c d s f j hl=>⟨O,?_⟩);unfold aFi at f;split at f
 ·rename_i p q k b;simp only[Qb]at f;subst f;obtain⟨i,rfl,n⟩:=RQ s;have hi:i≠0::fr:=by rintro rfl;have:=j 0 (0::fr) 0 (Zq _);rw[n]at this;cases this
  unfold aMo;simp only[↓C2,G9,simprocAttr,n,hi,Ah,Qx,Qw,Qh,Qk,Qm,Qg,and_self];intro i o y h;split
  ·grind
  ·exact h
 ·cases f
def aPZ:(I1 yR).ok Qf 249:=by
 obtain⟨S,w,hl⟩:=Bv (Aa aKh Ad);have a:=hl 161 _ rfl;clear hl;refine N4 (S:=S) w (Aj func249:Fn Qf 249 12 aMn [.t 3]) (λx caps m fr c d y f j hl=>⟨O,?_⟩);unfold yR at f;split at f
 ·rename_i p q;simp only[Qb]at f;subst f;obtain⟨i,rfl,n⟩:=RQ y;have k:∀p q,yX [.str p,.str q]=some (.bool (Bw p q)):=λ_ _=>rfl
  unfold aMn;cases h1:Bw p q with
  |false=>simp only[↓C2,G9,simprocAttr,n,Ab a,k,h1];simp
  |true=>simp only[↓C2,G9,simprocAttr,n,Ab a,k,h1];simp
 ·cases f
def aUz:Fn Qf 247 19 (dcI 3 (some 3)) [.t 4]:=⟨f247,_,func247,rfl,Z,rfl,Z,Z⟩
def aKV:Fn Qf 181 19 (dcI 1 none) [.t 4]:=⟨f181,_,func181,rfl,Z,rfl,Z,Z⟩
def aUw:Fn Qf 293 19 (dcI 1 none) [.t 4]:=⟨f293,_,func293,rfl,Z,rfl,Z,Z⟩
def aKZ:Fn Qf 118 9 (aHN 181) [.t 4]:=⟨f118,_,func118,rfl,Z,rfl,Z,Z⟩
def aUx:Fn Qf 240 9 (aHN 293) [.t 4]:=⟨f240,_,func240,rfl,Z,rfl,Z,Z⟩
def aPz:(FY 292 (some 2) yO).ok Qf 321:=NS O (Aj func321:Fn Qf 321 19 aUU [.t 4]) rfl aPW
def aU6:(iA 292 (some 2) yO).ok Qf 291:=qQ O (Aj func291:Fn Qf 291 9 aUW [.t 4]) aPz
def aPD:(FY 248 (some 3) aFi).ok Qf 247:=NS O aUz rfl aP0
def aPC:(FY 249 none yR).ok Qf 181:=NS O aKV rfl aPZ
def aU8:(iA 249 none yR).ok Qf 118:=qQ O aKZ aPC
abbrev Rl:=Bs×Int
def rlD(r:Rl):D:= .agg [.str r.1,.int .u8 r.2]
def As(l:List Rl):List D:=l.map rlD
def rlT:D->Rl
 | .agg [.str q,.int .u8 k]=>(q,k)
 |_=>([],0)
def Bo(xs:List D):List Rl:=xs.map rlT
theorem A5(l:List Rl):Bo (As l)=l:=by
 simp only[Bo,As,QJ]
 conv=>rhs;rw[←ZB l]
 exact QD λr _=>rfl
def CS(l:List Rl)(j:Nat):Rl:=l.getD j ([],0)
theorem A2(l:List Rl):(As l).length=l.length:=Qy ..
def O7{l:List Rl}{j:Nat}(h:j<l.length):(As l)[j]?=some (rlD (CS l j)):=by
 grind [As,CS]
def Lq(l:List Rl)(j:Nat):(As l).take j=As (l.take j):=(ZJ ..).symm
def aAC(l:List Rl):(As l).all (qC (some 2))=true:=by
 rw[Qt];intro x q;obtain⟨r,_,rfl⟩:=QZ.1 q;rfl
def Ta(l:List Rl):aE (As l) 2=2:=XH
def zV(l:List Rl)(q:Bs):Bool:=l.any λr=>decide (r.1=q)
def Ib(r:Rl)(l:List Rl):Int:=if r.1≠[]∧Ay r.1≠0 then Ay r.1 else if 63<r.2 then 2 else if zV l r.1=true then 20 else 0
def D4(l:List Rl):Nat->Nat->Int
 |0,_=>0
 |f+1,j=>if j<l.length then(if Ib (CS l j) (l.take j)≠0 then Ib (CS l j) (l.take j)else D4 l f (j+1))else 0
def Cw(l:List Rl):Int:=if 4<l.length then 24 else D4 l l.length 0
def Cr(l:List Rl):Prop:=∀r∈l,r.1.length<=1000000
def bM{l:List Rl}(h:Cr l){j:Nat}(q:j<l.length):(CS l j).1.length<=1000000:=by
 have:CS l j=l[j]:=by simp[CS,Qc q]
 rw[this];exact h _ (Ze q)
def Dt(bs:List Bool):FP (bs.map λb=>some (.bool b))=some bs:=by
 induction bs with
 |nil=>rfl
 |cons b r ih=>simp only[Q0,FP,ih,QO]
def aDB{l:List Rl}{nl:Bool}{t:Id}(hl:l.length<=1000000){q:Bs}(m:Ha)(fr i:Id)(j:m i 0=some (.str q)):
  (iA 292 (some 2) yO).ex [.slice nl t (As l),.fn 292 [.ptr i 0]] m fr=some (.bool (zV l q),[]):=by
 have e:(As l).map (yO (.str q))=(l.map λr=>decide (r.1=q)).map λb=>some (.bool b):=by
  simp only[As,QJ];exact QD λr _=>rfl
 simp only[iA,A2,hl,aAC,and_self,if_true,F_,j,Qi,e,Dt,QO];simp only[zV,ZN];rfl
open Classical in
def aFt:List D->Option D
 |[.agg [.str q,.int .u8 k],.slice _ _ xs]=>if xs=As (Bo xs)∧xs.length<=1000000∧q.length<=1000000 then some (.int .i64 (Ib (q,k) (Bo xs)))else none
 |_=>none
def aSl:Kq aFt 239:=by
 obtain⟨S,g,hl⟩:=Bv (Aa oV (Aa aU6 Ad));have o:=hl 107 _ rfl;have b:=hl 291 _ rfl;clear hl;refine AN (S:=S) g (Aj func239:Fn Qf 239 21 aLD [.t 4]) (λds r h=>?_) (λds r h=>?_)
 ·unfold aFt at h;split at h
  ·simp
  ·cases h
 ·unfold aFt at h;split at h
  ·rename_i q k nl t xs;split at h
   ·rename_i z;obtain⟨w,v,n⟩:=z;simp only[Qb]at h;subst h;generalize Bo xs=l at w;subst w;rw[A2]at v;have a:gV [.str q]=some (.int .i64 (Ay q)):=if_pos n;unfold aLD Ib;generalize Ay q=e at *;simp only[↓C2,Hc,H_,simprocAttr,Ah,Qx,Qw,Qh,Qk,Qm,Qg,and_self]
    repeat' (first|(refine aF (λh=>?_) (λh=>?_)<;>try (exfalso;omega))|(simp only[↓C2,Ho,simprocAttr,h,Ah,Ab o,a,AE b,aDB (q:=q) v]))
    all_goals (first|rfl|(rw[D.int.injEq];refine⟨rfl,?_⟩;(repeat' split)<;>first|rfl|(exfalso;simp_all;done)|(exfalso;simp_all;omega)))
   ·cases h
  ·cases h
open Classical in
def aJr{q:Bs}{k:Int}{nl:Bool}{t:Id}{l:List Rl}(hl:l.length<=1000000)(v:q.length<=1000000):aFt [.agg [.str q,.int .u8 k],.slice nl t (As l)]=some (.int .i64 (Ib (q,k) l)):=by
 have h:As l=As (Bo (As l))∧(As l).length<=1000000∧q.length<=1000000:=⟨by rw[A5],by rw[A2];exact hl,v⟩;show(if _ then _ else _)=_;rw[if_pos h,A5]
def aHe{S:G8}{ns:Id}{l:List Rl}{nl:Bool}{t:Id}{Q:Ex->St->Prop}{e:Int}(a:S 239=some (Ac aFt))(hb:l.length<=4)(c:Cr l)
  (y:∀v,e≠0->v.s 2= .int .i64 e->Q .ret v) (ga:∀v,e=0->Q (.exit 0) v):
  ∀(f j:Nat) v g,l.length=j+f->D4 l f j=e->v.s 0= .slice nl t (As l)->v.s 9= .slice nl t (As l)->v.s 10= .int .i64 (l.length:Int)->v.s 11= .int .i64 (j:Int)->Be S ns Pt Q v g:=by
 intro f;induction f with
 |zero=>
  intro j v g n z m h9 w na;refine Af Pt.eq_1 ?_;have:¬((j:Int)<l.length):=O
  simp only[↓C2,Hc,Hl,reduceIte,Qe,w,na,this];exact ga _ z.symm
 |succ f ih=>
  intro j v g n z m h9 w na;refine Af Pt.eq_1 ?_;unfold D4 at z;have p:j<l.length:=O
  rw[if_pos p]at z;have u:((j:Int)<l.length):=O
  have i:=nJ (j:=j);have o:((j:Int)<=l.length):=O
  have hw:=wJ (j:=j) O;have ka:=O7 p;have hq:=bM c p;generalize x:CS l j=r at z ka hq;obtain⟨q,k⟩:=r;have b:(As l)[j]?=some (.agg [.str q,.int .u8 k]):=ka;have hF:=aJr (nl:=nl) (t:=[]) (l:=l.take j) (q:=q) (k:=k) Xb hq;generalize Ib (q,k) (l.take j)=e' at z hF;obtain⟨ma,ia,ea⟩:=v;simp only at m h9 w na;simp only[↓C2,Ho,simprocAttr,m,h9,w,na,u,i,o,Qj,b,A2,Ta,Lq,Ab a,hF,Ah,Av,Aw,Qi,Qu,Qz,Qo,QB];refine A1 ?_;simp only[↓C2,Hc,H_,simprocAttr,Lq,QB];refine aF (λh=>?_) (λh=>?_)
  ·rw[if_neg Xo]at z;simp only[↓C2,Hc,H_,simprocAttr,na,Lq,QB,hw];exact ih (j+1) _ _ O z m h9 w rfl
  ·rw[if_pos h]at z;simp only[↓C2,Hc,H_,simprocAttr,Lq,QB];exact y _ (z▸h) (by rw[←z];rfl)
open Classical in
def yS:List D->Option D
 |[.slice _ _ xs]=>if xs=As (Bo xs)∧xs.length<=1000000∧Cr (Bo xs)then some (.int .i64 (Cw (Bo xs)))else none
 |_=>none
open Classical in
def V3{nl:Bool}{t:Id}{l:List Rl}(hl:l.length<=1000000)(c:Cr l):yS [.slice nl t (As l)]=some (.int .i64 (Cw l)):=by
 have h:As l=As (Bo (As l))∧(As l).length<=1000000∧Cr (Bo (As l)):=by rw[A5,A2];exact⟨rfl,hl,c⟩
 show(if _ then _ else _)=_;rw[if_pos h,A5]
open Classical in
theorem gR{ds:List D}{r:D}(h:yS ds=some r):∃nl t l,ds=[.slice nl t (As l)]∧l.length<=1000000∧Cr l∧r= .int .i64 (Cw l):=by
 unfold yS at h;split at h
 ·rename_i nl t xs;split at h
  ·rename_i z;obtain⟨u,y,i⟩:=z;simp only[Qb]at h;subst h;refine⟨nl,t,Bo xs,by rw[←u],?_,i,rfl⟩;rw[u,A2]at y;exact y
  ·cases h
 ·cases h
def bV:Kq yS 168:=by
 obtain⟨S,g,hl⟩:=Bv (Aa aSl Ad);have a:=hl 239 _ rfl;clear hl;refine AN (S:=S) g (Aj func168:Fn Qf 168 25 aMh [.t 2]) (λds r h=>?_) (λds r h=>?_)
 ·grind [gR]
 ·obtain⟨nl,t,l,rfl,hl,c,rfl⟩:=gR h;unfold aMh Cw;by_cases p:4<l.length
  ·have w:((4:Int)<l.length):=by omega
   simp only[↓C2,G9,simprocAttr,A2,w,p]
  ·have w:¬((4:Int)<l.length):=by omega
   simp only[↓C2,Hc,Hl,simprocAttr,A2,w];refine aHe (l:=l) (nl:=nl) (t:=t) (e:=D4 l l.length 0) a O c (λv u y=>?_) (λv u=>?_) l.length 0 _ _ O rfl rfl rfl rfl rfl
   ·simp only[↓C2,G9,y];rw[if_neg p]
   ·simp only[↓C2,G9,reduceIte,Qe,u];rw[if_neg p]
def Wo{k:IntKind}{a b:Int}:AQ .andNot (.int k a) (.int k b)=some (.int k (bits .andNot k a b)):=Xm
def dI(a c:Nat):Bool:=Nat.beq (Zr c (255-a)) 0
def aWn{x:Nat}(h:x<256):IntKind.u8.wrap (x:Int)=x:=by
 simp only[IntKind.wrap,IntKind.signed,IntKind.bits,Za,QS,if_false];omega
def R1{a c:Nat}(r:a<256)(z:c<256):bits .andNot .u8 (c:Int) (a:Int)=((Zr c (255-a):Nat):Int):=by
 have u:(BitVec.ofInt 8 (c:Int)).toNat=c:=by rw[BitVec.toNat_ofInt];omega
 have y:(BitVec.ofInt 8 (a:Int)).toNat=a:=by rw[BitVec.toNat_ofInt];omega
 have i:(BitVec.ofInt 8 (c:Int)&&& ~~~ BitVec.ofInt 8 (a:Int)).toNat=Zr c (255-a):=by
  rw[BitVec.toNat_and,BitVec.toNat_not,u,y];rfl
 have p:Zr c (255-a)<=c:=Nat.and_le_left;show IntKind.u8.wrap ((BitVec.ofInt 8 (c:Int)&&& ~~~ BitVec.ofInt 8 (a:Int)).toNat:Int)=_;rw[i];generalize Zr c (255-a)=x at p;exact aWn O
structure RI (fr r:Id) (m0 m:Ha) (l:List Bs) (j:Nat):Prop where
 row:∀i,i<l.length->m r i=some (.str (if i<j then l.getD i []else []))
 out:∀i o,¬fr<:+i->m i o=m0 i o
def RI.put{fr r:Id}{m0 m:Ha}{l:List Bs}{j k o:Nat}{ds:List D}(h:RI fr r m0 m l j)(s:(k::fr)≠r):RI fr r m0 (m.put (k::fr) o ds) l j:=by
 refine⟨λi hi=>?_,λi o' g=>?_⟩
 ·rw[aA (λe=>s e.symm)];exact h.row i hi
 ·rw[aA (λe=>g Yn)];exact h.out i o' g
def RI.fill{fr r:Id}{m0 m:Ha}{l:List Bs}{j:Nat}(h:RI fr r m0 m l j)(x:fr<:+r):RI fr r m0 (m.put r j [.str (l.getD j [])]) l (j+1):=by
 refine⟨λi hi=>?_,λi o' g=>?_⟩
 ·rw[Ah];by_cases e:i=j
  ·simp_all
  ·rw[if_neg Xb,h.row i hi];by_cases y:i<j
   ·rw[if_pos y,if_pos O]
   ·rw[if_neg y,if_neg O]
 ·rw[aA (λe=>g (by rw[e];exact x))];exact h.out i o' g
theorem RI.start{fr:Id}{m:Ha}{l:List Bs}{k n:Nat}(g:n=l.length):RI fr (k::fr) m (m.put (k::fr) 0 (Q7 n (.str []))) l 0:=by
 subst g;refine⟨λi hi=>?_,λi o g=>aA (λe=>g Yn)⟩;rw[Ah,if_pos ⟨rfl,O,by simp;exact hi⟩,if_neg O];simp[hi]
def RI.fin{fr r:Id}{m0 m:Ha}{l:List Bs}(h:RI fr r m0 m l l.length)(k:∀i o,fr<:+i->m0 i o=none):
  (∀(j:Nat) x,(l.map D.str)[j]?=some x->m r j=some x)∧∀i o x,m0 i o=some x->m i o=some x:=by
 refine⟨λj x q=>?_,λi o x q=>?_⟩
 ·have b:j<l.length:=by have:=(Qq.1 q).1;simpa using this
  rw[h.row j b,if_pos b];simp[b]at q;simp[b,q]
 ·rw[h.out i o (λg=>by rw[k i o g]at q;cases q)];exact q
def UF(F:List D->Option (List Bs)):HF where
 rd:=λ_ _=>[]
 ex:=λds _ _=>(F ds).map λl=>(.slice false [] (l.map .str),[])
def oF{S:G8}{P:Program}{f:FuncId}{N:Nat}{dc:DC}{rs:List RV}{F:List D->Option (List Bs)}(hS:G8.ok P S)(k:Fn P f N dc rs)
  (v:∀ds l m fr,F ds=some l->(∀i o,fr<:+i->m i o=none)->ds.length<=N∧dc.wp S fr (Ea rs λd m'=>∃i,d= .row i l.length∧fr<:+i∧RI fr i m m' l l.length) ⟨BI ds,m,0⟩):(UF F).ok P f:=by
 refine aGP hS k (λ_ _ _ _ _=>rfl) (λds m fr r u z j=>?_);simp only[UF,Ql,Qs]at z;obtain⟨l,hl,rfl,rfl⟩:=z;obtain⟨q,y⟩:=v ds l m fr hl j;refine⟨q,U,l.map .str,rfl,?_,?_⟩
 ·intro x w;obtain⟨s,_,rfl⟩:=QZ.1 w;exact⟨rfl,rfl⟩
 ·refine Mp y (λe fa h=>?_);obtain⟨a,d,p,i,b,g,t⟩:=h;exact⟨a,d,p,i,XU,g,(t.fin j).1,λi o x w=>(t.fin j).2 i o x w⟩
open Classical in
def aFz:List D->Option (List Bs)
 |[.slice _ _ xs]=>if xs=As (Bo xs)∧xs.length<=1000000 then some ((Bo xs).map (·.1))else none
 |_=>none
open Classical in
theorem aJE{nl:Bool}{t:Id}{l:List Rl}(hl:l.length<=1000000):aFz [.slice nl t (As l)]=some (l.map (·.1)):=by
 have h:As l=As (Bo (As l))∧(As l).length<=1000000:=by rw[A5,A2];exact⟨rfl,hl⟩
 show(if _ then _ else _)=_;rw[if_pos h,A5]
open Classical in
def aFy{ds:List D}{r:List Bs}(h:aFz ds=some r):∃nl t l,ds=[.slice nl t (As l)]∧l.length<=1000000∧r=l.map (·.1):=by
 unfold aFz at h;split at h
 ·rename_i nl t xs;split at h
  ·rename_i z;obtain⟨u,y⟩:=z;simp only[Qb]at h;subst h;refine⟨nl,t,Bo xs,by rw[←u],?_,rfl⟩;rw[u,A2]at y;exact y
  ·cases h
 ·cases h
def aHg{S:G8}{fr:Id}{l:List Rl}{nl:Bool}{t:Id}{m0:Ha}{k:Nat}{Q:Ex->St->Prop}(o:l.length<=1000000)
  (e:∀v,v.s 3= .row (k::fr) l.length->RI fr (k::fr) m0 v.m (l.map (·.1)) l.length->Q (.exit 0) v):
  ∀(f j:Nat) v g,l.length=j+f->k<v.c->v.s 3= .row (k::fr) l.length->v.s 9= .slice nl t (As l)->v.s 10= .int .i64 (l.length:Int)->v.s 11= .int .i64 (j:Int)->RI fr (k::fr) m0 v.m (l.map (·.1)) j->Be S fr Pv Q v g:=by
 intro f;induction f with
 |zero=>
  intro j v g a n i h9 la na I;refine Af Pv.eq_1 ?_;have:¬((j:Int)<l.length):=O
  simp only[↓C2,Hc,Hl,reduceIte,Qe,la,na,this];exact e _ i X5
 |succ f ih=>
  intro j v g a n i h9 la na I;refine Af Pv.eq_1 ?_;have q:j<l.length:=O
  have u:((j:Int)<l.length):=O
  have oa:=nJ (j:=j);have p:=wJ (j:=j) O;have x:(As l)[j]?=some (.agg [.str (CS l j).1,.int .u8 (CS l j).2]):=O7 q;have hg:(l.map (·.1)).getD j []=(CS l j).1:=by simp[CS,Qc q]
  generalize CS l j=r at x hg;have w:((v.c+1+3)::fr=k::fr)=False:=eq_false Xb;have z:(k::fr=(v.c+1+3)::fr)=False:=eq_false Xb;have y:=I.row j Xt;rw[if_neg O]at y;obtain⟨ma,ia,b⟩:=v;simp only at i h9 la na n w z y I;simp only[↓C2,Ho,reduceIte,Qd,Qe,i,h9,la,na,u,oa,p,Qj,x,z,y,QA,false_and,Ah,Av,Aw,QL,Qi,Qu,Qz,Qo];refine ih (j+1) _ _ O Xa i h9 la rfl ?_;rw[←hg];exact((I.put Xb).put Xb).fill (QI _ _)
def aSF:(UF aFz).ok Qf 94:=by
 refine oF (S:=λ_=>none) A8 (Aj func94:Fn Qf 94 23 aMs [.t 2]) (λds r m fr h j=>?_);obtain⟨nl,t,l,rfl,hl,rfl⟩:=aFy h;refine⟨U,?_⟩;have z:((0:Int)<=(l.length:Int)):=O
 have o:((l.length:Int)*(((16:Nat):Int)+1)<=140737488355328)=True:=eq_true O;unfold aMs;simp only[↓C2,Hc,H_,reduceIte,Qd,Qe,z,o,A2,Qj,ZC,Qh,Qk,Qm,and_self];refine aHg (l:=l) (nl:=nl) (t:=t) (m0:=m) (k:=3) hl (λv u y=>?_) l.length 0 _ _ O Xa rfl rfl rfl rfl ?_
 ·simp only[↓C2,Hc,reduceIte,Qd,Qe,u,Qy];exact⟨_,rfl,QI _ _,y⟩
 ·exact RI.start U
def OB(s:Bs)(l:List Bs):Nat->Nat->Int->Int->Int
 |0,_,b,_=>b
 |f+1,j,b,n=>if n<((l.getD j []).length:Int)∧Bw s (l.getD j [])=true then OB s l f (j+1) j (l.getD j []).length else OB s l f (j+1) b n
def Ih(s:Bs)(l:List Bs):Int:=OB s l l.length 0 (-1) (-1)
def aHh{S:G8}{ns:Id}{s:Bs}{l:List Bs}{nl:Bool}{t:Id}{Q:Ex->St->Prop}{e:Int}(a:S 161=some (Ac yX))(o:l.length<=1000000)
  (x:∀v,v.s 5= .int .i64 e->Q (.exit 0) v):
  ∀(f j:Nat)(b n:Int) v g,l.length=j+f->OB s l f j b n=e->v.s 0= .str s->v.s 5= .int .i64 b->v.s 6= .int .i64 n->v.s 9= .slice nl t (l.map .str)->v.s 10= .int .i64 (l.length:Int)->v.s 11= .int .i64 (j:Int)->Be S ns Pw Q v g:=by
 intro f;induction f with
 |zero=>
  intro j b n v g hf z m h5 h6 y w na;refine Af Pw.eq_1 ?_;have:¬((j:Int)<l.length):=O
  simp only[↓C2,Hc,Hl,reduceIte,Qe,w,na,this];exact x _ (by rw[←z];exact h5)
 |succ f ih=>
  intro j b n v g hf z m h5 h6 y w na;refine Af Pw.eq_1 ?_;unfold OB at z;have q:j<l.length:=O
  have u:((j:Int)<l.length):=O
  have i:=nJ (j:=j);have hw:=wJ (j:=j) O;have c:(l.map D.str)[j]?=some (.str (l.getD j [])):=by simp[q]
  generalize l.getD j []=p at c z;have k:yX [.str s,.str p]=some (.bool (Bw s p)):=rfl;obtain⟨ma,ia,ea⟩:=v;simp only at m h5 h6 y w na;by_cases r:n<(p.length:Int)
  ·cases hp:Bw s p with
   |true=>
    rw[if_pos ⟨r,hp⟩]at z;simp only[↓C2,G9,simprocAttr,m,y,w,na,h6,u,i,hw,Qj,c,Ab a,k,Qh,Qk,Qm,QP,r,hp];exact ih (j+1) _ _ _ _ O z m rfl rfl y w rfl
   |false=>
    rw[if_neg (by rw[hp];simp)]at z;simp only[↓C2,G9,simprocAttr,m,y,w,na,h6,u,i,hw,Qj,c,Ab a,k,Qh,Qk,Qm,QP,r,hp];exact ih (j+1) _ _ _ _ O z m h5 h6 y w rfl
  ·rw[if_neg (λh=>r h.1)]at z;simp only[↓C2,G9,simprocAttr,y,w,na,h6,u,i,hw,Qj,c,Qh,Qk,Qm,QP,r];exact ih (j+1) _ _ _ _ O z m h5 h6 y w rfl
def yZ:List D->Option D
 |[.str s,.slice _ _ xs]=>(GI xs).bind λl=>if l.length<=1000000 then some (.int .i64 (Ih s l))else none
 |_=>none
def aJF{s:Bs}{nl:Bool}{t:Id}{l:List Bs}(hl:l.length<=1000000):yZ [.str s,.slice nl t (l.map .str)]=some (.int .i64 (Ih s l)):=by
 grind [yZ,GH]
def aSG:Kq yZ 93:=by
 obtain⟨S,w,hl⟩:=Bv (Aa aKh Ad);have a:=hl 161 _ rfl;clear hl;refine AN (S:=S) w (Aj func93:Fn Qf 93 30 aMt [.t 4]) (λds r h=>?_) (λds r h=>?_)
 ·unfold yZ at h;split at h
  ·simp
  ·cases h
 ·unfold yZ at h;split at h
  ·rename_i s nl t xs;rw[QC]at h;obtain⟨l,g,h⟩:=h;obtain rfl:=Fx g;split at h
   ·rename_i hl;simp only[Qb]at h;subst h;unfold aMt;simp only[↓C2,Hc,simprocAttr,Qy];refine aHh (s:=s) (l:=l) (nl:=nl) (t:=t) (e:=Ih s l) a hl (λv u=>?_) l.length 0 _ _ _ _ O rfl rfl rfl rfl rfl rfl rfl;simp only[↓C2,G9,simprocAttr,u]
   ·cases h
  ·cases h
def Ds(l:List Rl)(s:Bs):Int:=if Ih s (l.map (·.1))<0 then 0 else(CS l (Ih s (l.map (·.1))).toNat).2
def Rf(s:Bs)(l:List Bs):∀(f j:Nat)(b n:Int),l.length=j+f->b<l.length->OB s l f j b n<l.length
 |0,j,b,n,hf,hb=>by simpa[OB]using hb
 |f+1,j,b,n,hf,hb=>by
  unfold OB;split
  ·exact Rf s l f (j+1) _ _ O O
  ·exact Rf s l f (j+1) _ _ O hb
def cT(s:Bs)(l:List Bs):Ih s l<l.length:=Rf s l _ _ _ _ O O
open Classical in
def F95:List D->Option D
 |[.slice _ _ xs,.str s]=>if xs=As (Bo xs)∧xs.length<=1000000 then some (.int .u8 (Ds (Bo xs) s))else none
 |_=>none
open Classical in
def nA{nl:Bool}{t:Id}{l:List Rl}{s:Bs}(hl:l.length<=1000000):F95 [.slice nl t (As l),.str s]=some (.int .u8 (Ds l s)):=by
 have h:As l=As (Bo (As l))∧(As l).length<=1000000:=by rw[A5,A2];exact⟨rfl,hl⟩
 show(if _ then _ else _)=_;rw[if_pos h,A5]
open Classical in
theorem sK{ds:List D}{r:D}(h:F95 ds=some r):∃nl t l s,ds=[.slice nl t (As l),.str s]∧l.length<=1000000∧r= .int .u8 (Ds l s):=by
 unfold F95 at h;split at h
 ·rename_i nl t xs s;split at h
  ·rename_i z;obtain⟨u,y⟩:=z;simp only[Qb]at h;subst h;refine⟨nl,t,Bo xs,s,by rw[←u],?_,rfl⟩;rw[u,A2]at y;exact y
  ·cases h
 ·cases h
def aOA:Kq F95 41:=by
 obtain⟨S,w,hl⟩:=Bv (Aa aSF (Aa aSG Ad));have d:=hl 94 _ rfl;have c:=hl 93 _ rfl;clear hl;refine AN (S:=S) w (Aj func41:Fn Qf 41 17 aUG [.t 4]) (λds r h=>?_) (λds r h=>?_)
 ·grind [sK]
 ·obtain⟨nl,t,l,s,rfl,hl,rfl⟩:=sK h;have b:∀m fr,(UF aFz).ex [.slice nl t (As l)] m fr=some (.slice false [] ((l.map (·.1)).map .str),[]):=by
   grind [UF,aJE]
  have a:yZ [.str s,.slice false [] ((l.map (·.1)).map .str)]=some (.int .i64 (Ih s (l.map (·.1)))):=aJF Xj;have f:((l.map (·.1)).map D.str).all D.calm=true:=X8
  have v:((l.map (·.1)).map D.str).map D.un=(l.map (·.1)).map D.str:=by rw[QJ];exact QD λ_ _=>rfl
  unfold aUG Ds;have u:=cT s (l.map (·.1));rw[Qy]at u;generalize Ih s (l.map (·.1))=i at a u;by_cases hi:i<0
  ·simp only[↓C2,G9,simprocAttr,AE d,b,Ab c,a,hi]
  ·obtain⟨j,rfl⟩:=QX (show 0<=i by omega);have p:j<l.length:=by omega
   have z:=nJ (j:=j);have ka:(As l)[j]?=some (.agg [.str (CS l j).1,.int .u8 (CS l j).2]):=O7 p;simp only[↓C2,G9,simprocAttr,AE d,b,Ab c,a,hi,z,Qj,ka,Qh,Qk,Qm,and_self,QB,QE,QP]
def Nl(l:List Rl)(s:Bs)(f:Int):Bool:=dI (Ds l s).toNat f.toNat
def GD(l:List Rl):Prop:=∀r∈l,0<=r.2∧r.2<256
open Classical in
def aFw:List D->Option D
 |[.slice _ _ xs,.str s,.int .u8 k]=>if xs=As (Bo xs)∧xs.length<=1000000∧GD (Bo xs)∧Cr (Bo xs)∧s.length<=1000000∧0<=k∧k<256 then some (.bool (Nl (Bo xs) s k))else none
 |_=>none
open Classical in
def aJB{nl:Bool}{t:Id}{l:List Rl}{s:Bs}{k:Int}(hl:l.length<=1000000)(z:GD l)(c:Cr l)(g:s.length<=1000000)(f:0<=k)(u:k<256):aFw [.slice nl t (As l),.str s,.int .u8 k]=some (.bool (Nl l s k)):=by
 have h:As l=As (Bo (As l))∧(As l).length<=1000000∧GD (Bo (As l))∧Cr (Bo (As l))∧s.length<=1000000∧0<=k∧k<256:=by rw[A5,A2];exact⟨rfl,hl,z,c,g,f,u⟩
 show(if _ then _ else _)=_;rw[if_pos h,A5]
open Classical in
theorem gU{ds:List D}{r:D}(h:aFw ds=some r):∃nl t l s k,ds=[.slice nl t (As l),.str s,.int .u8 k]∧l.length<=1000000∧GD l∧Cr l∧s.length<=1000000∧0<=k∧k<256∧r= .bool (Nl l s k):=by
 unfold aFw at h;split at h
 ·rename_i nl t xs s k;split at h
  ·rename_i z;obtain⟨u,y,i,c,g,p,m⟩:=z;simp only[Qb]at h;subst h;refine⟨nl,t,Bo xs,s,k,by rw[←u],?_,i,c,g,p,m,rfl⟩;rw[u,A2]at y;exact y
  ·cases h
 ·cases h
def qX{l:List Rl}{s:Bs}(z:GD l):0<=Ds l s∧Ds l s<256:=by
 unfold Ds;have u:=cT s (l.map (·.1));rw[Qy]at u;split
 ·omega
 ·rename_i h;have q:(Ih s (l.map (·.1))).toNat<l.length:=by omega
  have:CS l (Ih s (l.map (·.1))).toNat=l[(Ih s (l.map (·.1))).toNat]:=by simp[CS,Qc q]
  rw[this];exact z _ (Ze q)
def aSz:Kq aFw 307:=by
 obtain⟨S,e,hl⟩:=Bv (Aa aOA Ad);have z:=hl 41 _ rfl;clear hl;refine AN (S:=S) e (Aj func307:Fn Qf 307 13 aMg [.t 6]) (λds r h=>?_) (λds r h=>?_)
 ·grind [gU]
 ·obtain⟨nl,t,l,s,k,rfl,hl,n,w,g,f,u,rfl⟩:=gU h;have e1:=nA (nl:=nl) (t:=[]) (s:=s) hl;have o:=qX (s:=s) n;have p:(As l).all D.calm=true:=by rw[Qt];intro x q;obtain⟨y,_,rfl⟩:=QZ.1 q;rfl
  have v:(As l).map D.un=As l:=YU
  unfold aMg Nl;generalize Ds l s=a at e1 o;obtain⟨a,rfl⟩:=QX o.1;obtain⟨k,rfl⟩:=QX f;have b:=R1 (a:=a) (c:=k) O O;have j:decide (((Zr k (255-a):Nat):Int)=0)=dI a k:=by
   unfold dI;generalize Zr k (255-a)=x;cases x with
   |zero=>rfl
   |succ x=>simp[Nat.beq];omega
  simp only[↓C2,G9,simprocAttr,Ab z,e1,Wo,b,j,Qj]
def kT{m:Ha}{e:Nat}{nl:Bool}{t:Id}{xs:List D}:LK m e (.slice nl t xs)=(nl=true∨(m t 0=some (.tok (e+1))∧t≠[])):=rfl
def dK{e:Nat}{fr t:Id}{xs:List D}:Bh e fr (.slice false t xs)=[(t,0,[.tok 0]),(fr,0,[.tok (e+1)])]:=rfl
def NE(l:List Rl):(As l).all D.calm=true:=X8
def UG(l:List Rl):(As l).map D.un=As l:=YU
def jI(a b:List Rl)(r:Rl):Bool:=dI (Ds b r.1).toNat (Ds a r.1).toNat
def EM(a b l:List Rl):Nat->Nat->Bool
 |0,_=>true
 |f+1,j=>if jI a b (CS l j)=true then EM a b l f (j+1)else false
def I0(a b l:List Rl):∀(f j:Nat),l.length=j+f->EM a b l f j=(l.drop j).all (jI a b)
 |0,j,h=>by rw[List.drop_of_length_le O];rfl
 |f+1,j,h=>by
  have q:j<l.length:=O
  have e:CS l j=l[j]:=by simp[CS,Qc q]
  unfold EM;rw[I0 a b l f (j+1) O,Q4 q,ZI,e];cases jI a b l[j]<;>simp
def GY(a b:List Rl):Bool:=decide (Cw a=0)&&decide (Cw b=0)&&(a++b).all (jI a b)
open Classical in
def aJT:List D->Option D
 |[.slice _ _ xs,.slice _ _ ys]=>if(xs=As (Bo xs)∧xs.length<=1000000∧Cr (Bo xs)∧GD (Bo xs))∧ys=As (Bo ys)∧ys.length<=1000000∧Cr (Bo ys)∧GD (Bo ys)then some (.bool (GY (Bo xs) (Bo ys)))else none
 |_=>none
open Classical in
def aJS{na nb:Bool}{ta tb:Id}{a b:List Rl}(w:a.length<=1000000)(lb:b.length<=1000000)(k:Cr a)(y:Cr b)(v:GD a)(u:GD b):aJT [.slice na ta (As a),.slice nb tb (As b)]=some (.bool (GY a b)):=by
 have h:(As a=As (Bo (As a))∧(As a).length<=1000000∧Cr (Bo (As a))∧GD (Bo (As a)))∧As b=As (Bo (As b))∧(As b).length<=1000000∧Cr (Bo (As b))∧GD (Bo (As b)):=by
  grind [A5,A2]
 show(if _ then _ else _)=_;rw[if_pos h,A5,A5]
open Classical in
theorem gW{ds:List D}{r:D}(h:aJT ds=some r):∃na ta a nb tb b,ds=[.slice na ta (As a),.slice nb tb (As b)]∧a.length<=1000000∧b.length<=1000000∧Cr a∧Cr b∧GD a∧GD b∧r= .bool (GY a b):=by
 unfold aJT at h;split at h
 ·rename_i na ta xs nb tb ys;split at h
  ·rename_i z;obtain⟨⟨u,y,i,p⟩,m,n,k,s⟩:=z;simp only[Qb]at h;subst h;refine⟨na,ta,Bo xs,nb,tb,Bo ys,by rw[←u,←m],?_,?_,i,k,p,s,rfl⟩
   ·rw[u,A2]at y;exact y
   ·rw[m,A2]at n;exact n
  ·cases h
 ·cases h
def aL0:=y0 f58 [] []
def qH:=y0 f59 [] []
def aKX:Fn Qf 59 12 qH [.t 4]:=Aj func59
def Pq:=y1 f60 3 [] []
def qG:=y0 f60 [] [(3,Pq)]
def aKW:Fn Qf 60 23 qG [.t 4]:=Aj func60
def qL:=y0 f25 [(3,[(5,1)])] []
def aK0:Fn Qf 25 52 qL [.t 4]:=Aj func25
def aNa:=y0 f186 [] []
def PD:=y1 f189 3 [] []
def aM7:=y0 f189 [] [(3,PD)]
def gT:List D->Option D
 |[.int .i64 n,.int .i64 lo,.int .i64 hi]=>some (.bool (decide (lo<=n∧n<=hi)))
 |_=>none
def aAX:Kq gT 58:=by
 refine AN (S:=λ_=>none) A8 (Aj func58:Fn Qf 58 15 aL0 [.t 6]) (λds r h=>?_) (λds r h=>?_)
 ·unfold gT at h;split at h
  ·simp
  ·cases h
 ·unfold gT at h;split at h
  ·rename_i n lo hi;simp only[Qb]at h;subst h;unfold aL0;simp only[↓C2,Hc,simprocAttr]
   repeat' (first|(refine aF (λh=>?_) (λh=>?_)<;>try (exfalso;omega))|(simp only[↓C2,G9,simprocAttr,h,and_self,false_and]))
   all_goals (simp_all<;>omega)
  ·cases h
def aJu:List D->Option D
 |[.agg [.int .i64 a,.bool b,.int .i64 c,.slice nl t xs],.agg [.int .i64 q,.bool b2]]=>some (.int .i64 (if a=0 then q else a))
 |_=>none
def aSr:Kq aJu 59:=by
 refine AN (S:=λ_=>none) A8 aKX (λds r h=>?_) (λds r h=>?_)
 ·unfold aJu at h;split at h
  ·simp
  ·cases h
 ·unfold aJu at h;split at h
  ·rename_i a b c nl t xs q f;simp only[Qb]at h;subst h;unfold qH;simp only[↓C2,G9,simprocAttr,Ah,Qx,Qw,Qh,Qk,Qm,Qg,and_self,Qn,Qp]
   repeat' (first|(refine aF (λh=>?_) (λh=>?_)<;>try (exfalso;omega))|(simp only[↓C2,G9,simprocAttr,h,Ah,Qx,Qw,Qh,Qk,Qm,Qg,and_self,Qn,Qp,QQ]))
   all_goals simp_all
  ·cases h
def aJt:List D->Option D
 |[.slice nl t [],.fn g caps]=>some (.bool true)
 |_=>none
def aSq:Kq aJt 60:=by
 refine AN (S:=λ_=>none) A8 aKW (λds r h=>?_) (λds r h=>?_)
 ·unfold aJt at h;split at h
  ·simp
  ·cases h
 ·unfold aJt at h;split at h
  ·rename_i nl t g caps;simp only[Qb]at h;subst h;unfold qG;simp only[↓C2,Hc,simprocAttr,Qk];refine Af Pq.eq_1 ?_;simp only[↓C2,G9,simprocAttr,and_self,Zn,Zk]
  ·cases h
def aJK:List D->Option D
 |[.agg [.int .i64 0,.bool b,.int .i64 0,.slice nl t []],.agg [.int .i64 q,.bool b2]]=>some (.int .i64 (if 1<=q∧q<=6 then 0 else 2))
 |_=>none
def aSK:Kq aJK 25:=by
 obtain⟨S,w,hl⟩:=Bv (Aa aAX (Aa aSr (Aa aSq Ad)));have a:=hl 58 _ rfl;have i:=hl 59 _ rfl;have e:=hl 60 _ rfl;clear hl;refine AN (S:=S) w aK0 (λds r h=>?_) (λds r h=>?_)
 ·unfold aJK at h;split at h
  ·simp
  ·cases h
 ·unfold aJK at h;split at h
  ·rename_i b nl t q x;simp only[Qb]at h;subst h;unfold qL;have c:∀n lo hi,gT [.int .i64 n,.int .i64 lo,.int .i64 hi]=some (.bool (decide (lo<=n∧n<=hi))):=λ_ _ _=>rfl
   have d:aJu [.agg [.int .i64 0,.bool b,.int .i64 0,.slice nl [] []],.agg [.int .i64 q,.bool x]]=some (.int .i64 q):=rfl;have f:∀nl t g caps,aJt [.slice nl t [],.fn g caps]=some (.bool true):=λ_ _ _ _=>rfl
   by_cases v:1<=q∧q<=6
   ·have j:¬(q<0):=by omega
    simp only[↓C2,Ho,simprocAttr,Ah,Av,Aw,Qi,Qn,Qp,QQ,and_false,Ab a,c,Ab i,d,Ab e,f,v,j,Zk];refine A1 ?_;simp only[↓C2,Ho,simprocAttr,Ah,Qn,Qp,and_false,v,Zn,Zk]
   ·simp only[↓C2,G9,simprocAttr,Ah,Qx,Qw,Qh,Qk,Qm,Qg,and_self,Qn,QQ,Ab a,c,v]
  ·cases h
def aMj:=y0 f113 [] []
def aM4:=y0 f62 [] []
def aM5:=y0 f192 [] []
abbrev Mt:=Bs×Int×Bool
def ML(m:Mt):D:= .agg [.str m.1,.int .i64 m.2.1,.bool m.2.2]
def AB(l:List Mt):List D:=l.map ML
def mtT:D->Mt
 | .agg [.str p,.int .i64 q,.bool b]=>(p,q,b)
 |_=>([],0,false)
def Dx(xs:List D):List Mt:=xs.map mtT
def BN(l:List Mt):Dx (AB l)=l:=by
 simp only[Dx,AB,QJ]
 conv=>rhs;rw[←ZB l]
 exact QD λr _=>rfl
theorem AY(l:List Mt):(AB l).length=l.length:=Qy ..
def aA8(l:List Mt):(AB l).all (qC (some 3))=true:=by
 rw[Qt];intro x q;obtain⟨r,_,rfl⟩:=QZ.1 q;rfl
def Cd(l:List Mt)(j:Nat):Mt:=l.getD j ([],0,false)
def Pb{l:List Mt}{j:Nat}(h:j<l.length):(AB l)[j]?=some (ML (Cd l j)):=by
 grind [AB,Cd]
def C7(p:Bs)(q:Int):Int:=if Ay p≠0 then Ay p else if 1<=q∧q<=6 then 0 else 2
def BC(l:List Mt)(p:Bs):Int:=Bc (l.map λm=>decide (m.1=p))
def vB{l:List Mt}{nl:Bool}{t:Id}(hl:l.length<=1000000){q:Bs}(m:Ha)(fr i:Id)(j:m i 0=some (.str q)):
  (FY 248 (some 3) aFi).ex [.slice nl t (AB l),.fn 248 [.ptr i 0]] m fr=some (.int .i64 (BC l q),[]):=by
 have e:(AB l).map (aFi (.str q))=(l.map λr=>decide (r.1=q)).map λb=>some (.bool b):=by
  simp only[AB,QJ];exact QD λr _=>rfl
 simp only[FY,AY,hl,aA8,and_self,if_true,F_,j,Qi,e,Dt,QO];rfl
def II(s:Bs)(l:List Bs):Bool:=l.any λq=>Bw s q||Bw q s
def aDD{l:List Bs}{nl:Bool}{t:Id}(hl:l.length<=1000000){s:Bs}(m:Ha)(fr i:Id)(n:m i 0=some (.str s)):
  (iA 249 none yR).ex [.slice nl t (l.map .str),.fn 249 [.ptr i 0]] m fr=some (.bool (II s l),[]):=by
 have e:(l.map D.str).map (yR (.str s))=(l.map λq=>Bw s q||Bw q s).map λb=>some (.bool b):=by
  simp only[QJ];exact QD λr _=>rfl
 have j:(l.map D.str).all (qC none)=true:=by
  rw[Qt];intro x w;obtain⟨r,_,rfl⟩:=QZ.1 w;rfl
 simp only[iA,Qy,hl,j,and_self,if_true,F_,n,Qi,e,Dt,QO];simp only[II,ZN];rfl
def aJ0:List D->Option D
 |[.agg [.str p,.int .i64 q,.bool b]]=>if p.length<=1000000 then some (.int .i64 (C7 p q))else none
 |_=>none
def aS1:Kq aJ0 186:=by
 obtain⟨S,w,hl⟩:=Bv (Aa oV (Aa aSK Ad));have fa:=hl 107 _ rfl;have o:=hl 25 _ rfl;clear hl;refine AN (S:=S) w (Aj func186:Fn Qf 186 14 aNa [.t 2]) (λds r h=>?_) (λds r h=>?_)
 ·unfold aJ0 at h;split at h
  ·simp
  ·cases h
 ·unfold aJ0 at h;split at h
  ·rename_i p q b;split at h
   ·rename_i n;simp only[Qb]at h;subst h;unfold aNa;have a:gV [.str p]=some (.int .i64 (Ay p)):=if_pos n;have z:aJK [.agg [.int .i64 0,.bool false,.int .i64 0,.slice true [] []],.agg [.int .i64 q,.bool b]]=some (.int .i64 (if 1<=q∧q<=6 then 0 else 2)):=rfl;unfold C7;generalize Ay p=e at *;generalize (if 1<=q∧q<=6 then(0:Int)else 2)=m at *;by_cases he:e=0
    ·subst he;simp only[↓C2,Ho,reduceIte,Qd,Qe,Ah,Av,Aw,QL,Qi,Cg,Ab fa,a,Ab o,z,ne_eq]
    ·simp only[↓C2,G9,reduceIte,Qd,Qe,Ah,Qx,QL,Qw,Qh,Qk,Qm,Qg,and_self,Ab fa,a,he,ne_eq]
   ·cases h
  ·cases h
open Classical in
def aFH:List D->Option D
 |[.agg [.slice _ _ xs],.str p]=>if xs=AB (Dx xs)∧xs.length<=1000000 then some (.int .i64 (BC (Dx xs) p))else none
 |_=>none
open Classical in
def PJ{nl:Bool}{t:Id}{l:List Mt}{p:Bs}(hl:l.length<=1000000):aFH [.agg [.slice nl t (AB l)],.str p]=some (.int .i64 (BC l p)):=by
 have h:AB l=AB (Dx (AB l))∧(AB l).length<=1000000:=XN
 show(if _ then _ else _)=_;rw[if_pos h,BN]
def aAZ:Kq aFH 187:=by
 obtain⟨S,g,hl⟩:=Bv (Aa aPD Ad);have a:=hl 247 _ rfl;clear hl;refine AN (S:=S) g (Aj func187:Fn Qf 187 9 aM9 [.t 4]) (λds r h=>?_) (λds r h=>?_)
 ·unfold aFH at h;split at h
  ·simp
  ·cases h
 ·unfold aFH at h;split at h
  ·rename_i nl t xs p;split at h
   ·rename_i z;obtain⟨w,v⟩:=z;simp only[Qb]at h;subst h;generalize Dx xs=l at w;subst w;rw[AY]at v;unfold aM9;simp only[↓C2,G9,reduceIte,Qd,Qe,Ah,Qx,QL,Qw,Qh,Qk,Qm,Qg,and_self,Qn,Qp,QQ,AE a,vB (q:=p) v]
   ·cases h
  ·cases h
def aFG:List D->Option D
 |[.str s,.slice _ _ xs]=>(GI xs).bind λl=>if l.length<=1000000 then some (.bool (II s l))else none
 |_=>none
def aJZ{s:Bs}{nl:Bool}{t:Id}{l:List Bs}(hl:l.length<=1000000):aFG [.str s,.slice nl t (l.map .str)]=some (.bool (II s l)):=by
 grind [aFG,GH]
def aS0:Kq aFG 188:=by
 obtain⟨S,w,hl⟩:=Bv (Aa aU8 Ad);have a:=hl 118 _ rfl;clear hl;refine AN (S:=S) w (Aj func188:Fn Qf 188 8 aM8 [.t 4]) (λds r h=>?_) (λds r h=>?_)
 ·unfold aFG at h;split at h
  ·simp
  ·cases h
 ·unfold aFG at h;split at h
  ·rename_i s nl t xs;rw[QC]at h;obtain⟨l,g,h⟩:=h;obtain rfl:=Fx g;split at h
   ·rename_i hl;simp only[Qb]at h;subst h;unfold aM8;simp only[↓C2,G9,reduceIte,Qd,Qe,Ah,Qx,QL,Qw,Qh,Qk,Qm,Qg,and_self,AE a,aDD (s:=s) hl]
   ·cases h
  ·cases h
def RI.base{fr r:Id}{m0 a m:Ha}{l:List Bs}{j:Nat}(h:RI fr r a m l j)(e:∀i o,¬fr<:+i->a i o=m0 i o):RI fr r m0 m l j:=
 ⟨h.row,λi o g=>(h.out i o g).trans (e i o g)⟩
open Classical in
def aJY:List D->Option (List Bs)
 |[.agg [.slice _ _ xs]]=>if xs=AB (Dx xs)∧xs.length<=1000000 then some ((Dx xs).map (·.1))else none
 |_=>none
open Classical in
def aJX{nl:Bool}{t:Id}{l:List Mt}(hl:l.length<=1000000):aJY [.agg [.slice nl t (AB l)]]=some (l.map (·.1)):=by
 have h:AB l=AB (Dx (AB l))∧(AB l).length<=1000000:=XN
 show(if _ then _ else _)=_;rw[if_pos h,BN]
open Classical in
def aFF{ds:List D}{r:List Bs}(h:aJY ds=some r):∃nl t l,ds=[.agg [.slice nl t (AB l)]]∧l.length<=1000000∧r=l.map (·.1):=by
 unfold aJY at h;split at h
 ·rename_i nl t xs;split at h
  ·rename_i z;obtain⟨u,y⟩:=z;simp only[Qb]at h;subst h;refine⟨nl,t,Dx xs,by rw[←u],?_,rfl⟩;rw[u,AY]at y;exact y
  ·cases h
 ·cases h
def aHm{S:G8}{fr:Id}{l:List Mt}{nl:Bool}{t:Id}{m0:Ha}{k:Nat}{Q:Ex->St->Prop}(o:l.length<=1000000)
  (e:∀v,v.s 3= .row (k::fr) l.length->RI fr (k::fr) m0 v.m (l.map (·.1)) l.length->Q (.exit 0) v):
  ∀(f j:Nat) v g,l.length=j+f->k<v.c->v.s 3= .row (k::fr) l.length->v.s 11= .slice nl t (AB l)->v.s 12= .int .i64 (l.length:Int)->v.s 13= .int .i64 (j:Int)->RI fr (k::fr) m0 v.m (l.map (·.1)) j->Be S fr PD Q v g:=by
 intro f;induction f with
 |zero=>
  intro j v g a n i na qa p I;refine Af PD.eq_1 ?_;have:¬((j:Int)<l.length):=O
  simp only[↓C2,Hc,Hl,reduceIte,Qe,qa,p,this];exact e _ i X5
 |succ f ih=>
  intro j v g a n i na qa p I;refine Af PD.eq_1 ?_;have q:j<l.length:=O
  have u:((j:Int)<l.length):=O
  have oa:=nJ (j:=j);have hw:=wJ (j:=j) O;have x:(AB l)[j]?=some (.agg [.str (Cd l j).1,.int .i64 (Cd l j).2.1,.bool (Cd l j).2.2]):=Pb q;have hg:(l.map (·.1)).getD j []=(Cd l j).1:=by simp[Cd,Qc q]
  generalize Cd l j=r at x hg;have w:((v.c+1+3)::fr=k::fr)=False:=eq_false Xb;have z:(k::fr=(v.c+1+3)::fr)=False:=eq_false Xb;have y:=I.row j Xt;rw[if_neg O]at y;obtain⟨ma,ia,b⟩:=v;simp only at i na qa p n w z y I;simp only[↓C2,Ho,reduceIte,Qd,Qe,i,na,qa,p,u,oa,hw,Qj,x,z,y,QA,false_and,Ah,Av,Aw,QL,Qi,Qu,Qz,Qo,false_and];refine ih (j+1) _ _ O Xa i na qa rfl ?_;rw[←hg];exact((I.put Xb).put Xb).fill (QI _ _)
def aSZ:(UF aJY).ok Qf 189:=by
 refine oF (S:=λ_=>none) A8 (Aj func189:Fn Qf 189 25 aM7 [.t 2]) (λds r m fr h j=>?_);obtain⟨nl,t,l,rfl,hl,rfl⟩:=aFF h;refine⟨U,?_⟩;have z:((0:Int)<=(l.length:Int)):=O
 have q:((l.length:Int)*(((16:Nat):Int)+1)<=140737488355328)=True:=eq_true O;unfold aM7;simp only[↓C2,G9,reduceIte,Qd,Qe,z,q,AY,Qj,ZC,Ah,Qx,QL,Qw,Qh,Qk,Qm,Qg,and_self,Qn,false_and];refine aHm (l:=l) (nl:=nl) (t:=t) (m0:=m) (k:=5) hl (λv u y=>?_) l.length 0 _ _ O Xa rfl rfl rfl rfl ?_
 ·simp only[↓C2,Hc,reduceIte,Qd,Qe,u,Qy];exact⟨_,rfl,QI _ _,y⟩
 ·exact RI.base (RI.start (by simp[])) (λi o g=>aA (λe=>g Yn))
def aLK:=y0 f61 [] []
def aLr:=y0 f57 [] []
def aL5:=y0 f273 [] []
def aMP:=y0 Tryz.f219 [(1,[(1,0)])] []
def aL4:=y0 f274 [] []
def aLq:=y0 Tryz.f314 [] []
def aL3:=y0 f275 [(5,[(2,4),(2,6),(6,1),(6,2)]),(7,[(4,2)])] []
def aLp:=y0 f315 [] []
def Vy:=y1 f278 4 [] []
def aLZ:=y0 f278 [(1,[(5,1)])] [(4,Vy)]
def eL:=y0 f316 [] []
def aCg:Fn Qf 316 8 eL [.t 2]:=Aj func316
def aMN:=y0 f222 [] []
def Vx:=y1 f279 8 [] []
def aLX:=y0 f279 [(1,[(1,0)])] [(8,Vx)]
def aLW:=y0 f280 [] []
def aLV:=y0 f281 [] []
def aLU:=y0 f282 [] []
def aML:=y0 f226 [] []
def aMK:=y0 f227 [] []
def aMJ:=y0 f228 [] []
def aLn:=y0 f318 [] []
def Vp:=y1 f343 2 [] []
def aK9:=y0 f343 [] [(2,Vp)]
def Vs:=y1 f317 5 [(7,[(6,2),(6,8),(9,2)])] []
def aLo:=y0 f317 [(1,[(1,0)]),(3,[(5,1),(5,7),(5,10)])] [(5,Vs)]
def aLa:=y0 f342 [] []
end Go.Vd
namespace Go.Vd
section
variable{α:Type}(lt:α->α->Bool)(d:α)
def swp(xs:List α)(j:Nat):List α:=(xs.set (j+1) (xs.getD j d)).set j (xs.getD (j+1) d)
def Rq(xs:List α):Nat->List α
 |0=>xs
 |j+1=>if lt (xs.getD (j+1) d) (xs.getD j d)=true then Rq (swp d xs j) j else xs
def Dj:Nat->Nat->List α->List α
 |0,_,xs=>xs
 |f+1,i,xs=>Dj f (i+1) (Rq lt d xs i)
def kR(l:List α)(m:α):Nat->Nat
 |0=>0
 |j+1=>if lt m (l.getD j d)=true then kR l m j else j+1
def aKL(l:List α)(m:α):∀j,kR lt d l m j<=j
 |0=>QA _
 |j+1=>by
  unfold kR;split
  ·exact Nat.le_succ_of_le (aKL l m j)
  ·exact QA _
def nS(xs:List α)(j:Nat):(swp d xs j).length=xs.length:=by simp[swp]
def Rp:∀(j:Nat)(xs:List α),(Rq lt d xs j).length=xs.length
 |0,xs=>rfl
 |j+1,xs=>by
  unfold Rq;split
  ·rw[Rp j,nS]
  ·rfl
theorem isortR_len:∀(f i:Nat)(xs:List α),(Dj lt d f i xs).length=xs.length
 |0,_,xs=>rfl
 |f+1,i,xs=>by rw[Dj,isortR_len f,Rp]
def aGk(a b:List α)(x y:α):swp d (a++x::y::b) a.length=a++y::x::b:=by
 simp_all [swp]
def dE(l:List α)(m:α):∀(j:Nat)(b:List α),j<=l.length->Rq lt d (l.take j++m::b) j=l.take (kR lt d l m j)++m::((l.take j).drop (kR lt d l m j)++b)
 |0,b,_=>by simp[Rq,kR]
 |j+1,b,h=>by
  have v:(l.take j).length=j:=XE
  have q:l.take (j+1)=l.take j++[l.getD j d]:=by
   rw[Zb O];simp[Zy,Qc (show j<l.length by omega)]
  have e:l.take (j+1)++m::b=l.take j++l.getD j d::m::b:=by rw[q];simp
  have z:(l.take j++l.getD j d::m::b).getD (j+1) d=m:=by
   simp_all
  have k:(l.take j++l.getD j d::m::b).getD j d=l.getD j d:=by
   simp_all
  rw[e];unfold Rq kR;rw[z,k];split
  ·have g:=aGk d (l.take j) b (l.getD j d) m;rw[v]at g;rw[g,dE l m j (l.getD j d::b) O,q];have s:=aKL lt d l m j;rw[List.drop_append_of_le_length O];simp
  ·simp_all
def kK{xs:List α}{i:Nat}(h:lt (xs.getD i d) (xs.getD (i-1) d)=false):Rq lt d xs i=xs:=by
 cases i with
 |zero=>rfl
 |succ j=>
  unfold Rq;rw[Zv]at h;rw[if_neg (by rw[h];exact Bool.false_ne_true)]
def Tx(l:List α)(m:α)(g:∀i,i+1<l.length->lt (l.getD (i+1) d) (l.getD i d)=false):
  ∀(f i:Nat),1<=i->i+f=l.length+1->Dj lt d f i (l++[m])=if f=0 then l++[m]else l.take (kR lt d l m l.length)++m::l.drop (kR lt d l m l.length)
 |0,i,_,_=>by simp[Dj]
 |f+1,i,hi,h=>by
  rw[if_neg (Qv f)];unfold Dj;by_cases k:f=0
  ·subst k;have:i=l.length:=by omega
   subst this;have:=dE lt d l m l.length [] (QA _);simp only[Zp,List.append_nil]at this;unfold Dj;exact this
  ·have a:i<l.length:=by omega
   have z:(l++[m]).getD i d=l.getD i d:=by simp[Zy,QU a]
   have s:(l++[m]).getD (i-1) d=l.getD (i-1) d:=by simp[Zy,QU (show i-1<l.length by omega)]
   rw[kK lt d (by rw[z,s];have:=g (i-1) O;rwa [show i-1+1=i by omega]at this),Tx l m g f (i+1) O O,if_neg k]
end
end Go.Vd
namespace Go.Vd
open Go.RowKit
def D.plain:D->Bool
 | .bool _| .int _ _| .str _=>true
 |_=>false
def Rep.plain{w m:World}{g q:Gh}{d:D}{v:Value}(h:Rep w g d v)(c:d.plain=true):Rep m q d v:=by
 cases h with
 |bool b=>exact .bool b
 |int k n=>exact .int k n
 |str s=>exact .str s
 |_=>cases c
def IG(F:List D->Option (List D)):HF where
 rd:=λ_ _=>[]
 ex:=λds _ fr=>if(ds.map D.un).all D.calm=true then(F (ds.map D.un)).map λxs=>(.row fr xs.length,[(fr,0,flat xs)])else none
section
variable{P:Program}{B:Nat}{w0 w w':World}{m:Ha}{g:Gh}
def Hi.adopt(h:Hi P B w0 m w g)(hb:Below w.heap.size w w'){fr:Id}(hf:B0 m g fr){b:Nat}(z:w.heap.size<=b){cur:Array Value}{T:TypeId}(hh:w'.heap[b]?=some (.cells cur T (0,0))){ds:List D}
  (hc:∀(j:Nat) d,ds[j]?=some d->d.plain=true∧∃v,cur[j]?=some v∧v.oneCell'=true∧Rep w' (g.obj fr b) d v):
  Hi P B w0 (m.put fr 0 ds) w' (g.obj fr b)∧Hr w g w' (g.obj fr b):=by
 have x:Hr w g w' (g.obj fr b):=by
  refine⟨λp hp=>?_,λb=>QA _,λi' b h=>?_,rfl,λi x h=>h,hb.size,λi' b' h=>?_,λi x h=> .inl ⟨i,x,h,rfl⟩,λk o hk _ _=>(hb.block k (QF.1 hk).1).trans hk⟩
  rotate_right
  ·simp only[Gh.obj]at h;split at h
   ·simp only[Qb]at h;exact .inr O
   ·exact .inl ⟨i',h⟩
  ·by_cases da:p.block<w.heap.size
   ·exact hb.cell da
   ·rw[h.gz _ O]at hp;omega
  ·simp only[Gh.obj];split
   ·rename_i e;subst e;rw[hf.2.1]at h;cases h
   ·exact h
 refine⟨?_,x⟩;have ne:∀i' b',g.dl i'=some b'->i'≠fr:=λi' b' hb e=>by subst e;rw[hf.2.1]at hb;cases hb
 have ea:∀o d,m.put fr 0 ds fr o=some d->ds[o]?=some d:=by
  intro o d hm;by_cases ho:o<ds.length
  ·have ba:m.put fr 0 ds fr (0+o)=ds[o]?:=aD ho;rw[Qm]at ba;rw[←ba];exact hm
  ·rw[aC O,hf.1 o]at hm;cases hm
 have sa:∀{o d},m.put fr 0 ds fr o=some d->d.plain=true:=λhm=>(hc _ _ (ea _ _ hm)).1
 have a:∀{i o d},m.put fr 0 ds i o=some d->d.plain=false->i≠fr∧m i o=some d:=by
  grind [aA]
 refine⟨h.below.trans (hb.mono h.size),QR h.size hb.size,λb' ua=>h.gz b' (QR hb.size ua),h.old,λi' b' hi=>?_,λi1 i2 b' u f=>?_,λi' o d hm t=>?_,λi' e hi=>?_,λi1 i2 e e' b' y y' u f h3 h4=>?_,h.itr.to (λi' s p e=>(a e rfl).2) λi' b' s p _ _ _ e1 e2 e3=>?_⟩
 rotate_right
 ·have da:b'<w.heap.size:=(QF.1 e1).1;refine⟨rfl,hb.block b' da,e2,λi1 u=>?_⟩;simp only[Gh.obj]at u;split at u
  ·grind
  ·exact e3 i1 u
 ·simp only[Gh.obj]at hi;split at hi
  ·rename_i e;subst e;simp only[Qb]at hi;subst hi;refine⟨QR h.size z,h.gz _ z,cur,T,hh,λo d hm=>?_⟩;exact(hc o d (ea o d hm)).2
  ·rename_i ga;obtain⟨p,q,bb,T',ta,r⟩:=h.obj i' b' hi;refine⟨p,q,bb,T',(hb.block b' (h.lt hi)).trans ta,λo d hm=>?_⟩;rw[aA ga]at hm;obtain⟨v,r1,r2,r3⟩:=r o d hm;exact⟨v,r1,r2,r3.ext x⟩
 ·simp only[Gh.obj]at u f;split at u<;>split at f
  ·simp_all
  ·simp only[Qb]at u;subst u;have:=h.lt f;omega
  ·simp only[Qb]at f;subst f;have:=h.lt u;omega
  ·exact h.inj _ _ _ u f
 ·simp only[Gh.obj]at t;split at t
  ·cases t
  ·rename_i ga;rw[aA ga]at hm;exact h.kind _ _ _ hm t
 ·obtain⟨ga,hi⟩:=a hi rfl;obtain⟨b1,n,c,sz,na,t1,t2,t3,t4,t5,t6,t7,t8,t9,ya⟩:=h.tok i' e hi;have da:b1<w.heap.size:=(QF.1 t5).1;refine⟨b1,n,c,sz,na,t1,t2,t3,t4,(hb.block b1 da).trans t5,t6,t7,t8,t9,λi1 u=>?_⟩;simp only[Gh.obj]at u;split at u
  ·grind
  ·exact ya i1 u
 ·exact h.tinj _ _ _ _ _ _ _ (a u rfl).2 (a f rfl).2 h3 h4
end
section
variable{P:Program}{S:G8}{f:FuncId}{N:Nat}{dc:DC}{rs:List RV}
def aAR(hS:G8.ok P S)(hf:Fn P f N dc rs){F:List D->Option (List D)}(hN:∀ds r,F ds=some r->ds.length<=N)
  (hF:∀ds xs,F ds=some xs->(∀x∈flat xs,x.plain=true)∧dc.wp S [] (Ea rs λd m'=>∃t e,d= .slice false t xs∧t≠[]∧m' t 0=some (.tok (e+1))) ⟨BI ds,λ_ _=>none,0⟩):(IG F).ok P f:=by
 obtain⟨fn,ca,q,y,h3,h4,h5,h6⟩:=hf.is;refine⟨⟨fn,q,Xu,h3⟩,λds m m' fr _=>rfl,?_⟩;intro B w0 w m g fr ds vs r u hi ia hl ea z;simp only[IG]at z;split at z
 ·rename_i ha;rw[Ql]at z;obtain⟨xs,hr,z⟩:=z;simp only[Qs]at z;obtain⟨rfl,rfl⟩:=z;obtain⟨sa,za⟩:=hF _ _ hr;have va:=Nz P w hi.gz;have ba:∀(j:Nat) d v,(ds.map D.un)[j]?=some d->vs[j]?=some v->Rep w (startG g.G) d v:=by
   intro j d v s hv;have hc:=Qt.1 ha d (Qr s);rw[QN,Ql]at s;obtain⟨d',ra,rfl⟩:=s;exact(ea j d' v ra hv).un.calm_to hc (λ_ _=>rfl) (λ_=>QA _)
  have ja:=GE (B:=w.heap.size) (w0:=w) (w:=w) (g:=startG g.G) (ns:=[]) (m:=λ_ _=>none) (ds:=ds.map D.un) (vs:=vs) hS hf (hN _ _ hr) va (λk i _=>⟨λ_=>rfl,rfl,rfl⟩) Xj ba za;refine ja.mono ?_;rintro e w' ⟨v,d,m',g',rfl,fa,ma,_,ab,t,e',rfl,ht,a⟩;obtain⟨b,n,c,sz,cur,t1,t2,t3,t4,t5,t6,t7,t8,t9,ya⟩:=fa.tok t e' a;rcases ab.slice_inv with ⟨h,_⟩|⟨_,ad,n',c',oa,vv,rfl,q1,q2,q3,q4,q5,q6,q7,q8,q9⟩
  ·cases h
  ·obtain⟨p,o,l⟩:=q8 ht;rw[t1]at l;simp only[Qb,Qs]at l;obtain⟨hb,hn,hc,la⟩:=l;have yb:ad=⟨b,0,none⟩:=by
    cases ad;simp only at hb p o;subst hb p o;rfl
   subst yb;subst hn hc la;have wa:=Cl q3;obtain⟨i1,i2⟩:=hi.adopt fa.below (ia fr (Zq _)) t2 t5 (ds:=flat xs) (λj d s=>by
    have hj:j<n*sz:=by rw[q1,←wa];exact(Qq.1 s).1
    have hp:=sa d (Qr s);have ka:=q4 j hj;rw[FV,Qm]at ka;refine⟨hp,vv j,?_,q5 j hj,(q6 j d s).plain hp⟩;simpa[World.cell?,t5]using ka)
   refine⟨_,g.obj fr b,rfl,i1,i2,?_,λi hf ga=>EL hf ga _ _⟩;rw[←q1];exact .row fr n c b q2 (by simp[Gh.obj])
 ·cases z
def aQj(m:Ha)(d r:D):Prop:=r=d.un∨(∃i xs sz,d= .row i xs.length∧r= .slice false [] xs∧(∀x∈xs,x.calm=true∧x.cells.length=sz)∧∀(j:Nat) x,(flat xs)[j]?=some x->m i j=some x)∨
 ∃i xs,d= .ptr i 0∧r= .eptr xs∧(∀x∈xs,x.calm=true)∧∀(j:Nat) x,xs[j]?=some x->m i j=some x
def yD(p:D->D->Prop):List D->List D->Prop
 |[],[]=>True
 |c::cs,x::xs=>p c x∧yD p cs xs
 |_,_=>False
def aQi(m:Ha)(d r:D):Prop:=aQj m d r∨∃cs xs,d= .agg cs∧r= .agg xs∧yD (aQj m) cs xs
def aVs(m:Ha)(d r:D):Prop:=(r.calm=true∧aQi m d r)∨∃cs xs,d= .tup cs∧r= .tup xs∧yD (aQi m) cs xs
def yD.get{p:D->D->Prop}:∀{cs xs:List D},yD p cs xs->cs.length=xs.length∧∀(j:Nat) c x,cs[j]?=some c->xs[j]?=some x->p c x
 |[],[],_=>⟨rfl,U⟩
 |c::cs,x::xs,h=>by
  obtain⟨u,y⟩:=h;obtain⟨a,b⟩:=yD.get y;refine⟨by simp[a],λj c' t z q=>?_⟩;cases j with
  |zero=>simp only[Qg,Qb]at z q;subst z q;exact u
  |succ j=>simp only[QM]at z q;exact b j c' t z q
 |[],_::_,h=>h.elim
 |_::_,[],h=>h.elim
def pS(hS:G8.ok P S)(hf:Fn P f N dc rs){F:List D->Option D}(hN:∀ds r,F ds=some r->ds.length<=N)
  (hF:∀ds r,F ds=some r->r.calmR=true∧dc.wp S [] (Ea rs λd m'=>aVs m' d r) ⟨BI ds,λ_ _=>none,0⟩):(Ac F).ok P f:=by
 obtain⟨fn,ca,q,y,h3,h4,h5,h6⟩:=hf.is;refine⟨⟨fn,q,Xu,h3⟩,λds m m' fr _=>rfl,?_⟩;intro B w0 w m g fr ds vs r u hi ia hl ea z;simp only[Ac]at z;split at z
 ·rename_i ha;rw[Ql]at z;obtain⟨r',hr,z⟩:=z;simp only[Qs]at z;obtain⟨rfl,rfl⟩:=z;obtain⟨ta,za⟩:=hF _ _ hr;have va:=Nz P w hi.gz;have ba:∀(j:Nat) d v,(ds.map D.un)[j]?=some d->vs[j]?=some v->Rep w (startG g.G) d v:=by
   intro j d v p hv;have hc:=Qt.1 ha d (Qr p);rw[QN,Ql]at p;obtain⟨d',ra,rfl⟩:=p;exact(ea j d' v ra hv).un.calm_to hc (λ_ _=>rfl) (λ_=>QA _)
  have ja:=GE (B:=w.heap.size) (w0:=w) (w:=w) (g:=startG g.G) (ns:=[]) (m:=λ_ _=>none) (ds:=ds.map D.un) (vs:=vs) hS hf (hN _ _ hr) va (λk i _=>⟨λ_=>rfl,rfl,rfl⟩) Xj ba za;refine ja.mono ?_;rintro e w' ⟨v,d,m',g',rfl,o,ma,_,ab,na⟩
  let G':Nat->Nat:=λb=>max (g'.G b) (match w'.heap[b]? with|some (.cells c _ _)=>c.size|_=>0)
  have t:∀b,g'.G b<=(g.glue w G').G b:=by
   intro b;simp only[Gh.glue];split
   ·rename_i n;rw[o.old b n,ma.G0];exact QA _
   ·exact Nat.le_max_left ..
  have l:∀b,w'.heap.size<=b->G' b=0:=by
   intro b hb;simp only[G'];rw[Array.getElem?_eq_none hb,o.gz b hb];rfl
  have hC:∀{d r:D} {v:Value},Rep w' g' d v->aQj m' d r->r.calm=true->Rep w' (g.glue w G') r v:=by
   intro d r v h hs hc;rcases hs with rfl|⟨i,xs,sz,rfl,rfl,s,hm⟩|⟨i,xs,rfl,rfl,s,hm⟩
   ·exact h.un.calm_to hc (λ_ _=>rfl) t
   ·obtain⟨b,cap,rfl,qa,hb⟩:=h.row_inv;obtain⟨mb,lb,cur,T,a,oa⟩:=o.obj i b hb;have wa:=Cl λx h=>(s x h).2
    have cb:∀(j:Nat),j<(flat xs).length->∃v,cur[j]?=some v∧v.oneCell'=true∧∃x,(flat xs)[j]?=some x∧Rep w' g' x v:=by
     grind
    have la:(flat xs).length<=cur.size:=by
     grind
    have ha:∀x∈xs,x.calm=true:=λx h=>(s x h).1
    refine aG (sz:=sz) (cur:=cur) (vs:=cur.toList.take (flat xs).length) a rfl qa (λx h=>(s x h).2) ⟨Xb,λv hv=>?_,λj x v pa hv=>?_⟩ (λj v hv=>?_) ?_ (λh=>absurd rfl h) ha
    ·obtain⟨j,hj,rfl⟩:=QW hv;have sa:j<(flat xs).length:=Zj hj (Zg _ _);obtain⟨v',r1,r2,_⟩:=cb j sa;have:(cur.toList.take (flat xs).length)[j]?=some v':=by rw[QK sa];simpa using r1
     rw[Qc hj]at this;rw[QG this];exact r2
    ·have sa:j<(flat xs).length:=(Qq.1 pa).1;obtain⟨v',r1,r2,x',ka,r3⟩:=cb j sa;rw[pa]at ka;obtain rfl:=QG ka;have:(cur.toList.take (flat xs).length)[j]?=some v':=by rw[QK sa];simpa using r1
     rw[hv]at this;obtain rfl:=QG this;exact r3.calm_to (LA ha x (Qr pa)) (λ_ _=>rfl) t
    ·grind
    ·rw[←wa];simp only[Gh.glue,G'];rw[if_neg O,a];exact QR la (Zz ..)
   ·obtain⟨b,rfl,hb⟩:=h.ptr_inv;obtain⟨mb,lb,cur,T,a,oa⟩:=o.obj i b hb;have cb:∀(j:Nat)(hj:j<xs.length),∃v,cur[j]?=some v∧v.oneCell'=true∧Rep w' g' xs[j] v:=λj hj=>oa j _ (hm j _ (Qc hj))
    have la:xs.length<=cur.size:=by
     rcases Zu xs.length with h0|h0
     ·omega
     ·obtain⟨v,r1,_⟩:=cb (xs.length-1) O;have:=(QF.1 r1).1;omega
    refine .eptr xs ⟨b,0,none⟩ (λj=>cur.getD j undef) (λj hj=>?_) (λj hj=>?_) (λj d p=>?_) (λ_=>?_) s
    ·rw[FV,Qm];simp[World.cell?,a,Array.getD,show j<cur.size by omega]
    ·obtain⟨v,r1,r2,_⟩:=cb j hj;have:cur.getD j undef=v:=by simp[Zh,r1]
     rw[this];exact r2
    ·have hj:=(Qq.1 p).1;obtain⟨v,r1,_,r3⟩:=cb j hj;have q:cur.getD j undef=v:=by simp[Zh,r1]
     have y:xs[j]=d:=(Qq.1 p).2;rw[y]at r3;rw[q];exact r3.calm_to (s d (Qr p)) (λ_ _=>rfl) t
    ·simp only[Gh.glue,G'];rw[if_neg O,a];exact QR (by simpa using la) (Zz ..)
  have hD:∀{d r:D} {v:Value},Rep w' g' d v->aQi m' d r->r.calm=true->Rep w' (g.glue w G') r v:=by
   intro d r v h hs hc;rcases hs with hs|⟨cs,xs,rfl,rfl,hL⟩
   ·exact hC h hs hc
   ·obtain⟨us,rfl,k1,k2,k3⟩:=aI h;obtain⟨l1,l2⟩:=hL.get;refine .agg _ us (by rw[k1,l1]) k2 (λj x v s hv=>?_);have hj:j<cs.length:=by rw[l1];exact(Qq.1 s).1
    exact hC (k3 j _ v (Qc hj) hv) (l2 j _ x (Qc hj) s) (Nh hc x (Qr s))
  refine⟨v,g.glue w G',rfl,hi.glue o.below l,Hr.glue hi.gz o.below,?_,λi hf _=>hf⟩;rcases na with ⟨hc,hs⟩|⟨cs,xs,rfl,rfl,hL⟩
  ·exact hD ab hs hc
  ·obtain⟨us,rfl,k1,k2⟩:=ab.tup_inv;obtain⟨l1,l2⟩:=hL.get;refine .tup _ us (by rw[k1,l1]) (λj x v s hv=>?_);have hj:j<cs.length:=by rw[l1];exact(Qq.1 s).1
   simp only[D.calmR,Qt]at ta;exact hD (k2 j _ v (Qc hj) hv) (l2 j _ x (Qc hj) s) (ta x (Qr s))
 ·cases z
end
def aHv:D->Bool
 | .slice _ _ _=>true
 |_=>false
def Fd:List D->Nat
 |[]=>0
 | .slice _ _ xs::r=>xs.length+Fd r
 |_::r=>Fd r
def eV:∀{L ys:List D},Fi L=some ys->ys.length=Fd L∧L.all aHv=true
 |[],ys,h=>by simp only[Fi,Qb]at h;subst h;exact⟨rfl,rfl⟩
 |x::r,ys,h=>by
  unfold Fi at h;split at h
  ·rename_i c;cases c
  ·rename_i nl t xs a c;cases c;rw[Ql]at h;obtain⟨zs,j,rfl⟩:=h;obtain⟨u,y⟩:=eV j;exact⟨by simp[Fd,u],by simp[aHv,y]⟩
  ·cases h
def gZ(sz:Nat)(d:D):Bool:=d.cells.length==sz
def kP{sz:Nat}{ys:List D}(h:ys.all (gZ sz)=true):aE ys sz=sz:=by
 cases ys with
 |nil=>rfl
 |cons y r=>
  have:=Qt.1 h y (Q5 ..);simpa[aE,gZ]using this
def aXc{n bytes:Nat}(y:bytes<=1000000)(g:n<=100000):n*(bytes+1)<=140737488355328:=QR (Nat.mul_le_mul g (Nat.succ_le_succ y)) O
def aB8{m:Ha}{e:Nat}{fr t:Id}{nl:Bool}{xs:List D}:Hf.app m (Bh e fr (.slice nl t xs)) fr 0=some (.tok (e+1)):=by
 cases nl<;>simp[Bh,Hf.app,BM]
def Mg(pt:Nat):DC:=(.seq (.row [⟨some 12,.bin .lss (.t 11) (.t 10),[],none⟩]) (.seq (.cond (.t 12) .skip (.exit 0)) (.seq (.block 1 (.seq (.row [⟨some 13,.iaddr 1 (.t 9) (.t 11),[],none⟩,⟨some 14,.load none (.t 13),[],none⟩,⟨some 5,.mv (.t 14),[],none⟩]) (.seq (.row [⟨some 15,.mv (.t 3),[],none⟩,⟨some 16,.mv (.t 5),[],none⟩,⟨some 17,.len false (.t 16),[],none⟩,⟨some 18,.bin .add (.t 15) (.t 17),[],none⟩,⟨some 3,.mv (.t 18),[],none⟩]) (.seq (.row [⟨some 19,.mv (.t 3),[],none⟩,⟨some 20,.bin .lss (.t 19) (.c (.int .i64 0)),[],none⟩]) (.cond (.t 20) (.row [⟨some 21,.mkif pt (.c (.str [108,101,110,32,111,117,116,32,111,102,32,114,97,110,103,101])),[],none⟩,⟨none,.stop,[],none⟩]) .skip))))) (.row [⟨some 22,.bin .add (.t 11) (.c (.int .i64 1)),[],none⟩,⟨some 11,.mv (.t 22),[],none⟩]))))
def Mf(e sz bytes:Nat):DC:=(.seq (.row [⟨some 28,.bin .lss (.t 27) (.t 26),[],none⟩]) (.seq (.cond (.t 28) .skip (.exit 2)) (.seq (.block 3 (.seq (.row [⟨some 29,.iaddr 1 (.t 25) (.t 27),[],none⟩,⟨some 30,.load none (.t 29),[],none⟩,⟨some 8,.mv (.t 30),[],none⟩]) (.row [⟨some 31,.mv (.t 6),[],none⟩,⟨some 32,.mv (.t 8),[],none⟩,⟨some 33,.app e sz bytes (.t 31) (.t 32),[],none⟩,⟨some 6,.mv (.t 33),[],none⟩]))) (.row [⟨some 34,.bin .add (.t 27) (.c (.int .i64 1)),[],none⟩,⟨some 27,.mv (.t 34),[],none⟩]))))
def GC(pt e sz bytes gf:Nat):DC:=(.seq (.row [⟨some 2,.mv (.c (.slice true [] [])),[],none⟩]) (.seq (.row [⟨some 3,.mv (.c (.int .i64 0)),[],none⟩]) (.seq (.seq (.row [⟨some 9,.mv (.t 0),[],none⟩,⟨some 10,.len false (.t 9),[],none⟩,⟨some 11,.mv (.c (.int .i64 0)),[],none⟩]) (.block 0 (.loop (Mg pt)))) (.seq (.row [⟨some 23,.mv (.t 3),[],none⟩,⟨some 24,.call (.c (.fn gf [])) [(.c (.slice true [] [])),(.t 23)],[],none⟩,⟨some 6,.mv (.t 24),[],none⟩]) (.seq (.seq (.row [⟨some 25,.mv (.t 0),[],none⟩,⟨some 26,.len false (.t 25),[],none⟩,⟨some 27,.mv (.c (.int .i64 0)),[],none⟩]) (.block 2 (.loop (Mf e sz bytes)))) (.seq (.row [⟨some 35,.mv (.t 6),[],none⟩,⟨some 2,.mv (.t 35),[],none⟩]) .ret))))))
def aBl{pt:Nat}{S:G8}{ns:Id}{L:List D}{nl:Bool}{t:Id}{Q:Ex->St->Prop}(o:L.length<=1000)(ja:L.all aHv=true)
  (e:∀(v:St),v.s 0= .slice nl t L->v.s 3= .int .i64 (Fd L:Nat)->Q (.exit 0) v):
  ∀(R:List D)(k a:Nat) v g,L.drop k=R->k<=L.length->a+Fd R=Fd L->Fd L<=1000000->v.s 0= .slice nl t L->v.s 9= .slice nl t L->v.s 10= .int .i64 (L.length:Nat)->v.s 11= .int .i64 (k:Nat)->v.s 3= .int .i64 (a:Nat)->
   Be S ns (Mg pt) Q v g:=by
 intro R;induction R with
 |nil=>
  intro k a v g p hk r j f z w na i;refine Af (Mg.eq_1 pt) ?_;have y:L.length<=k:=Xw
  have:¬((k:Int)<L.length):=O
  simp only[↓C2,Hc,Hl,reduceIte,Qe,w,na,this];refine e _ ?_ ?_
  ·simp only[↓C2,reduceIte,Qd,f]
  ·simp only[↓C2,reduceIte,Qd,i];simp only[Fd]at r;rw[←r];rfl
 |cons x R ih=>
  intro k a v g p hk r j f z w na i;refine Af (Mg.eq_1 pt) ?_;have m:k<L.length:=by
   grind
  have pa:L[k]?=some x:=by
   have:=congrArg (·[0]?) p;simpa using this
  have q:aHv x=true:=Qt.1 ja x (Qr pa);have za:L.drop (k+1)=R:=by
   rw[←ZE,p];rfl
  match x,q with
  | .slice nl' t' xs,_=>
   have u:((k:Int)<L.length):=O
   have n:(0:Int)<=(k:Int):=O
   have b:L[(k:Int).toNat]?=some (.slice nl' t' xs):=by simpa using pa
   simp only[Fd]at r;have w1:IntKind.i64.wrap ((a:Int)+(xs.length:Int))=((a+xs.length:Nat):Int):=Yq
   have w2:IntKind.i64.wrap ((k:Int)+1)=((k+1:Nat):Int):=Yq
   have c:¬(((a+xs.length:Nat):Int)<0):=O
   simp only[↓C2,G9,reduceIte,Qd,Qe,z,w,na,i,u,n,b,w1,w2,c];exact ih (k+1) (a+xs.length) _ _ za O O j f z w rfl rfl
def aBk{e sz bytes:Nat}(qa:bytes<=1000000){S:G8}{ns:Id}{L:List D}{nl0:Bool}{t0:Id}{Q:Ex->St->Prop}(o:L.length<=1000)
  (ga:∀(v:St)(nl:Bool)(t:Id)(ys:List D),Fi L=some ys->v.s 6= .slice nl t ys->(nl=true->ys=[])->LK v.m e (.slice nl t ys)->Q (.exit 2) v):
  ∀(R:List D)(k:Nat)(y zs:List D)(nl:Bool)(t:Id) v g,L.drop k=R->k<=L.length->Fi R=some zs->Fi L=some (y++zs)->(y++zs).all (gZ sz)=true->(y++zs).length<=100000->
   (nl=true->y=[])->LK v.m e (.slice nl t y)->
   v.s 6= .slice nl t y->v.s 25= .slice nl0 t0 L->v.s 26= .int .i64 (L.length:Nat)->v.s 27= .int .i64 (k:Nat)->
   Be S ns (Mf e sz bytes) Q v g:=by
 intro R;induction R with
 |nil=>
  intro k y zs nl t v g p hk hz hL c w na ia n f d ha;refine Af (Mf.eq_1 e sz bytes) ?_;have r:L.length<=k:=Xw
  have:¬((k:Int)<L.length):=O
  simp only[Fi,Qb]at hz;subst hz;simp only[↓C2,Hc,Hl,reduceIte,Qe,d,ha,this];refine ga _ nl t y (by simpa using hL) ?_ na ia;simp only[↓C2,reduceIte,Qd,n]
 |cons x R ih=>
  intro k y zs nl t v g p hk hz hL c w na ia n f d ha;refine Af (Mf.eq_1 e sz bytes) ?_;have ma:k<L.length:=by
   grind
  have pa:L[k]?=some x:=by
   have:=congrArg (·[0]?) p;simpa using this
  have za:L.drop (k+1)=R:=by
   rw[←ZE,p];rfl
  unfold Fi at hz;split at hz
  ·rename_i q;cases q
  ·rename_i nl' t' xs R' q;cases q;rw[Ql]at hz;obtain⟨a,ta,rfl⟩:=hz;have u:((k:Int)<L.length):=by omega
   have ya:(0:Int)<=(k:Int):=O
   have b:L[(k:Int).toNat]?=some (.slice nl' t' xs):=by simpa using pa
   have i:IntKind.i64.wrap ((k:Int)+1)=((k+1:Nat):Int):=Yq
   simp only[↓C2,G9,reduceIte,Qd,Qe,n,f,d,ha,u,ya,b];have j:(if nl=true then xs else y++xs)=y++xs:=B8 na;refine aF (λz=>?_) (λz=>?_)
   ·obtain⟨rfl,rfl⟩:=z;obtain rfl:=na rfl;simp only[↓C2,Hc,H_,reduceIte,Qd,Qe,ha,i];exact ih (k+1) [] a true [] _ _ za O ta (by simpa using hL) XK XJ (λ_=>rfl) (.inl rfl) rfl f d rfl
   ·have ib:xs.all (gZ sz)=true:=by
     rw[Zs,Zs]at c;simp only[Q3]at c;exact c.2.1
    refine Au.intro ⟨aXc qa (by simp only[Q6]at w;omega),kP ib,ia⟩ ?_;rw[j];simp only[↓C2,Hc,H_,reduceIte,Qd,Qe,ha,i];refine ih (k+1) (y++xs) a false _ _ _ za O ta (by simpa using hL) XK XJ (λh=>Xc) (.inr ⟨aB8,U⟩) rfl f d rfl
  ·cases hz
def Uk(sz:Nat):List D->Option (List D)
 |[.slice _ _ L]=>match Fi L with
  |some ys=>if L.length<=1000∧0<ys.length∧ys.length<=100000∧ys.all (gZ sz)=true then some ys else none
  |none=>none
 |_=>none
def RO{P:Program}{f gf pt e sz bytes:Nat}(y:bytes<=1000000){S:G8}(w:S gf=some (DK e)){L ys:List D}{nl:Bool}{t:Id}(u:Fi L=some ys)(c1:L.length<=1000)(n:0<ys.length)(k:ys.length<=100000)(s:ys.all (gZ sz)=true)
  {R:D->Ha->Prop} (x:∀t m,LK m e (.slice false t ys)->R (.slice false t ys) m):(GC pt e sz bytes gf).wp S [] (Ea [.t 2] R) ⟨BI [.slice nl t L],λ_ _=>none,0⟩:=by
 obtain⟨hl,p⟩:=eV u;unfold GC;simp only[↓C2,Hc,reduceIte,Qd,Qe];refine aBl c1 p (λv q i=>?_) L 0 0 _ _ rfl O U O rfl rfl rfl rfl rfl;simp only[↓C2,Hc,Hl,reduceIte,Qe,i];rw[AE w];have hg:(DK e).ex ([D.slice true [] [],D.int IntKind.i64 (Fd L:Nat)]++[]) v.m [v.c+1]=some (.slice false [0,v.c+1] [],[([0,v.c+1],0,[.tok (e+1)])]):=by
  grind [DK]
 refine aH hg ?_;simp only[↓C2,Hc,reduceIte,Qd,Qe,q];refine aBk y c1 (λr nl' b zs j o g z=>?_) L 0 [] ys false _ _ _ rfl O u XS XT (by simpa using k) (λh=>Xc) (.inr ⟨?_,U⟩) rfl q rfl rfl
 ·rw[u]at j;simp only[Qb]at j;subst j;have a:nl'=false:=by
   grind
  subst a;simp only[↓C2,Hc,reduceIte,Qd,Qe,o];exact x _ _ z
 ·simp[BM]
section
variable{P:Program}{f gf pt e sz bytes:Nat}
def Sn{ds ys:List D}(h:Uk sz ds=some ys):∃nl t L,ds=[.slice nl t L]∧Fi L=some ys∧L.length<=1000∧0<ys.length∧ys.length<=100000∧ys.all (gZ sz)=true:=by
 unfold Uk at h;split at h
 ·grind
 ·cases h
def gS(gf e:Nat):G8:=λf=>if f=gf then some (DK e)else none
def aKT(a:(DK e).ok P gf):G8.ok P (gS gf e):=by
 intro f q h;unfold gS at h;split at h
 ·simp_all
 ·cases h
def aHZ(k:Fn P f 36 (GC pt e sz bytes gf) [.t 2])(s:bytes<=1000000)(a:(DK e).ok P gf):(IG λds=>(Uk sz ds).bind λys=>if(flat ys).all D.plain=true then some ys else none).ok P f:=by
 refine aAR (aKT a) k (λds r h=>?_) (λds r h=>?_)
 ·rw[QC]at h;obtain⟨ys,h,_⟩:=h;obtain⟨nl,t,L,rfl,_⟩:=Sn h;simp
 ·rw[QC]at h;obtain⟨ys,h,y⟩:=h;split at y
  ·rename_i c;simp only[Qb]at y;subst y;obtain⟨nl,t,L,rfl,b,c1,n,o,v⟩:=Sn h;refine⟨λx q=>Qt.1 c x q,RO (P:=P) (f:=f) s (by simp[gS]) b c1 n o v λt m z=>?_⟩;rcases z with h|⟨u,y⟩
   ·cases h
   ·exact⟨t,e,rfl,y,u⟩
  ·cases y
def qW(k:Fn P f 36 (GC pt e sz bytes gf) [.t 2])(y:bytes<=1000000)(a:(DK e).ok P gf){F:List D->Option D}
  (b:∀ds r,F ds=some r->∃nl t L ys,ds=[.slice nl t L]∧Fi L=some ys∧L.length<=1000∧0<ys.length∧ys.length<=100000∧ys.all (gZ sz)=true∧r= .slice false [] ys):(Ac F).ok P f:=by
 refine AN (aKT a) k (λds r h=>?_) (λds r h=>?_)
 ·grind
 ·obtain⟨nl,t,L,ys,rfl,i,c1,n,o,v,rfl⟩:=b ds r h;exact RO (P:=P) (f:=f) y (by simp[gS]) i c1 n o v λt m z=>⟨rfl,rfl⟩
end
def NT(n:Nat):UInt8:=if n<10 then UInt8.ofNat (48+n)else UInt8.ofNat (87+n)
def OU(s:List UInt8):List UInt8:=s.flatMap λb=>[NT (b.toNat / 16),NT (b.toNat % 16)]
theorem hexB_len:∀s:List UInt8,(OU s).length=2*s.length
 |[]=>rfl
 |b::r=>by
  have:=hexB_len r;simp only[OU,List.flatMap_cons,Q6,Qh,Qk]at this ⊢;omega
def Fj(a b:List UInt8):AH (a++b)=AH a++AH b:=by simp[AH]
def Cp(a:List UInt8):(AH a).length=a.length:=by simp[AH]
def Da:∀a:List UInt8,BG (AH a)=some a
 |[]=>rfl
 |c::r=>by
  have h:=c.toNat_lt;show(BG (AH r)).map _=_;rw[Da r];simp
def Rr:∀n,n<16->([48,49,50,51,52,53,54,55,56,57,97,98,99,100,101,102]:List UInt8)[n]?=some (NT n):=Xk
def aVo:∀n:Nat,n<256->bits .and .u8 (n:Int) 15=((n % 16:Nat):Int):=Xk
def aWp:∀n:Nat,n<256->(n:Int).fdiv (2 ^ min (4:Int).toNat IntKind.u8.bits)=((n / 16:Nat):Int):=Xk
def vC(s:List UInt8)(c:UInt8):OU (s++[c])=OU s++[NT (c.toNat / 16),NT (c.toNat % 16)]:=by simp[OU]
def CH:List (List UInt8)->Nat
 |[]=>0
 |w::r=>w.length+CH r
def Sr(m:Ha)(i:Id):Nat->Nat->Option (List (List UInt8))
 |0,_=>some []
 |f+1,j=>match m i j,Sr m i f (j+1)with
  |some (.str p),some l=>some (p::l)
  |_,_=>none
def S_{m:Ha}{i:Id}:∀{f j:Nat} {xs:List (List UInt8)},Sr m i f j=some xs->xs.length=f∧∀k x,xs[k]?=some x->m i (j+k)=some (.str x)
 |0,j,xs,h=>by
  simp only[Sr,Qb]at h;subst h;exact⟨rfl,U⟩
 |f+1,j,xs,h=>by
  unfold Sr at h;split at h
  ·rename_i p l w v;simp only[Qb]at h;subst h;obtain⟨c,e⟩:=S_ v;refine⟨by simp[c],λk x q=>?_⟩;cases k with
   |zero=>simp only[Qg,Qb]at q;subst q;exact w
   |succ k=>
    have:=e k x Xt;rw[show j+1+k=j+(k+1)by omega]at this;exact this
  ·cases h
def WG{m m':Ha}{i:Id}:∀{f j n:Nat},j+f<=n->(∀o,o<n->m i o=m' i o)->Sr m i f j=Sr m' i f j
 |0,j,n,_,_=>rfl
 |f+1,j,n,hn,h=>by
  unfold Sr;rw[h j O,WG (f:=f) (j:=j+1) O h]
def nT{m:Ha}{i:Id}:∀{xs:List (List UInt8)} {j:Nat},(∀k x,xs[k]?=some x->m i (j+k)=some (.str x))->Sr m i xs.length j=some xs
 |[],j,_=>rfl
 |x::r,j,h=>by
  have f:=h 0 x rfl;have z:=nT (xs:=r) (j:=j+1) (λk y o=>by have:=h (k+1) y (by simpa using o);rw[show j+1+k=j+(k+1)by omega];exact this);simp only[Qh,Sr,Q8]at f ⊢;rw[f,z]
def CC:List (List UInt8)->List UInt8
 |[]=>[]
 |[w]=>w
 |w::v::r=>w++44::CC (v::r)
def Gp:∀l:List (List UInt8),(CC l).length<=CH l+l.length
 |[]=>by simp[CC]
 |[w]=>by simp[CC,CH]
 |w::v::r=>by
  have:=Gp (v::r);simp only[CC,Q6,Qh,CH]at this ⊢;omega
def Ro:∀l:List (List UInt8),Lib.join l [44]=CC l
 |[]=>rfl
 |[w]=>Lib.join_one w [44]
 |w::v::r=>by
  have ih:=Ro (v::r);rw[Lib.join_cons]at ih;rw[Lib.join_cons,CC,←ih];simp[Lib.joinTail]
def Tw:HF where
 rd:=λds _=>match ds with
  |[.row i n,_]=>(List.range n).map λo=>(i,o)
  |_=>[]
 ex:=λds m _=>match ds with
  |[.row i n,.str [44]]=>(Sr m i n 0).bind λl=>if l.length<=1000∧CH l<=1000000 then some (.str (CC l),[])else none
  |_=>none
def aBQ {P:Program} {ρ:Go.Shelf.Ren} (L:Go.Proofs.Lays.n156 P ρ) (X:Go.Proofs.Builder.Extra P ρ) (e:∃fn,P.funcs[ρ.f 156]?=some fn∧fn.body.isSome=true∧(fn.name== "runtime.NumGoroutine")=false):Tw.ok P (ρ.f 156):=by
 refine⟨e,λds m m' fr h=>?_,?_⟩
 ·simp only[Tw]at h ⊢;split
  ·rename_i i n;simp only at h;rw[WG (m:=m) (m':=m') (n:=n) O λo ho=>h (i,o) (QZ.2 ⟨o,by simpa using ho,rfl⟩)]
  ·rfl
 intro B w0 w m g fr ds vs r u hi ia hl ea p;simp only[Tw]at p;split at p
 ·rename_i i n;rw[QC]at p;obtain⟨l,ja,p⟩:=p;split at p
  ·rename_i t;obtain⟨c1,c2⟩:=t;simp only[Qb,Qs]at p;obtain⟨rfl,rfl⟩:=p
   match vs,hl with
   |[v,v1],_=>
    have h0:=ea 0 _ v rfl rfl;have q:=ea 1 _ v1 rfl rfl;rw[q.str_inv];obtain⟨b,c,rfl,za,k⟩:=h0.row_inv;obtain⟨d,pa⟩:=S_ ja;obtain⟨mb,lb,cur,T,a,oa⟩:=hi.obj i b k;have ka:∀(j:Nat) z,l[j]?=some z->w.cell? ⟨b,0+j,none⟩=some (.string ⟨z.toArray⟩):=by
     intro j z y;have hm:=pa j z y;rw[Qm]at hm;obtain⟨v',r1,r2,r3⟩:=oa j _ hm;rw[r3.str_inv]at r1;simp[World.cell?,a,r1]
    have da:(l.map λx=>(⟨x.toArray⟩:ByteArray)).map (·.data.toList)=l:=YB
    have hj:(⟨#[44]⟩:ByteArray).data.toList=[44]:=rfl;have fa:=Gp l;have:=Go.Proofs.Any.strings_Join L X b 0 c (l.map λx=>(⟨x.toArray⟩:ByteArray)) ⟨#[44]⟩ w (λj x s=>by
     rw[QN,Ql]at s;obtain⟨z,y,rfl⟩:=s;exact ka j z y) (hi.lt k) Xb Xb (by rw[da,hj,Ro];omega)
    rw[da,hj,Ro,Qy,d]at this;refine this.mono ?_;rintro ev w' ⟨rfl,k⟩;exact⟨_,g.over w w',rfl,hi.over k,Hr.over hi.gz k,.str _,λi hf _=>hf⟩
  ·cases p
 ·cases p
section
variable{P:Program}{B:Nat}{w0:World}{N:Nat}{ns:Id}{S:G8}{t:Nat}
end
section
variable{P:Program}{S:G8}{f:FuncId}{N:Nat}{dc a b:DC}{rs:List RV}{code:Code}
end
section
variable{P:Program}{B:Nat}{w0 w:World}{m:Ha}{g g0:Gh}{N:Nat}
end
section
variable{P:Program}{B:Nat}{w0:World}{N:Nat}{S:G8}
end
def BZ(m:Ha)(e:Nat)(nl:Bool)(t:Id)(emp:Bool):Bool:=
 if nl=true then emp else match m t 0 with
  |some (.tok k)=>k==e+1&&!t.isEmpty
  |_=>false
def Rv{m:Ha}{e:Nat}{nl:Bool}{t:Id}{emp:Bool}{xs:List D}(h:BZ m e nl t emp=true):LK m e (.slice nl t xs):=by
 unfold BZ at h;split at h
 ·rename_i f;exact .inl f
 ·split at h
  ·rename_i k j;simp only[Q3,beq_iff_eq]at h;rw[h.1]at j;exact .inr ⟨j,by intro e;rw[e]at h;simp at h⟩
  ·cases h
theorem Ep{m m':Ha}{e:Nat}{nl:Bool}{t:Id}{emp:Bool}(h:m t 0=m' t 0):BZ m e nl t emp=BZ m' e nl t emp:=by
 unfold BZ;rw[h]
def dL{m m':Ha}{e:Nat}{nl:Bool}{t:Id}{emp:Bool}{xs:List D}(h:BZ m e nl t emp=true)(j:nl=false->m t 0=some (.tok (e+1))->m' t 0=m t 0):LK m' e (.slice nl t xs):=by
 rcases Rv (xs:=xs) h with h0|⟨u,y⟩
 ·exact .inl h0
 ·cases nl with
  |true=>exact .inl rfl
  |false=>exact .inr ⟨by rw[j rfl u];exact u,y⟩
def EU{m:Ha}{e:Nat}{nl:Bool}{t:Id}{emp:Bool}(h:BZ m e nl t emp=true):nl=false->m t 0=some (.tok (e+1)):=by
 rintro rfl;rcases Rv (xs:=[]) h with h0|⟨u,y⟩
 ·cases h0
 ·exact u
theorem De{m:Ha}{e:Nat}{f t i:Id}{nl:Bool}{xs:List D}{o:Nat}:Hf.app m (Bh e f (.slice nl t xs)) i o=if i=f∧o=0 then some (.tok (e+1))else if nl=false∧i=t∧o=0 then some (.tok 0)else m i o:=by
 cases nl<;>simp[Bh,Hf.app,BM]
def Iz{n:Nat}(h:n<256):(UInt8.ofNat n).toNat=n:=by simp[UInt8.toNat_ofNat'];omega
def Up(n:Int):IntKind.u8.wrap n=(((n % 256).toNat:Nat):Int):=by
 have u:IntKind.u8.wrap n=n % 256:=YC
 rw[u];omega
structure Gd (e:Nat) (fr:Id) (m0:Ha) (nl0:Bool) (t0:Id) (m:Ha) (c:Nat) (t:Id):Prop where
 name:∃l j,t=l++j::fr∧j<c
 tok:m t 0=some (.tok (e+1))
 out:∀i o,¬fr<:+i->m i o=(if nl0=true then m0 else m0.put t0 0 [.tok 0]) i o
def Gs(e:Nat)(fr:Id)(m0:Ha)(nl0:Bool)(t0:Id)(m:Ha)(c:Nat)(nl:Bool)(t:Id):Prop:=
 (nl=nl0∧t=t0∧∀i o,¬fr<:+i->m i o=m0 i o)∨(nl=false∧Gd e fr m0 nl0 t0 m c t)
def iL(l:List Nat)(j:Nat)(fr:Id):fr<:+l++j::fr:=⟨l++[j],U⟩
theorem aTq{l z:List Nat}{j k:Nat}{fr:Id}(h:j≠k):l++j::fr≠z++k::fr:=by
 intro e;have p:=congrArg List.reverse e;simp only[List.reverse_append,List.reverse_cons,Zc,List.append_cancel_left_eq]at p;simp only[Zd,Q_,Qn]at p;exact h p.1
section
variable{e:Nat}{fr:Id}{m0 m:Ha}{nl0 nl:Bool}{t0 t:Id}{c c' k o:Nat}{l:List Nat}{xs ds:List D}{emp:Bool}
def Gs.start:Gs e fr m0 nl0 t0 m0 c nl0 t0:= .inl ⟨rfl,rfl,λ_ _ _=>rfl⟩
def Gd.gs(h:Gd e fr m0 nl0 t0 m c t):Gs e fr m0 nl0 t0 m c false t:= .inr ⟨rfl,h⟩
def Gd.more(h:Gd e fr m0 nl0 t0 m c t)(z:c<=c'):Gd e fr m0 nl0 t0 m c' t:=⟨by obtain⟨l,j,b,r⟩:=h.name;exact⟨l,j,b,O⟩,h.tok,h.out⟩
def Gs.more(h:Gs e fr m0 nl0 t0 m c nl t)(z:c<=c'):Gs e fr m0 nl0 t0 m c' nl t:=h.imp id (λ⟨a,b⟩=>⟨a,b.more z⟩)
def oT(j:∀i o,fr<:+i->m0 i o=none)(h:m0 t0 0=some (.tok (e+1))):¬fr<:+t0:=λg=>by rw[j _ _ g]at h;cases h
def UR(i:Id)(o':Nat)(hi:¬fr<:+i):m.put (l++k::fr) o ds i o'=m i o':=aA (λe=>hi (e▸iL l k fr))
def Gd.put(h:Gd e fr m0 nl0 t0 m c t)(s:c<=k:=by omega):Gd e fr m0 nl0 t0 (m.put (l++k::fr) o ds) c t:=by
 refine⟨h.name,?_,λi o' hi=>(UR i o' hi).trans (h.out i o' hi)⟩;obtain⟨z,j,b,r⟩:=h.name;rw[aA]
 ·exact h.tok
 ·grind [aTq]
def Gs.put(h:Gs e fr m0 nl0 t0 m c nl t)(s:c<=k:=by omega):Gs e fr m0 nl0 t0 (m.put (l++k::fr) o ds) c nl t:=by
 rcases h with ⟨a,b,d⟩|⟨a,h⟩
 ·exact .inl ⟨a,b,λi o' hi=>(UR i o' hi).trans (d i o' hi)⟩
 ·exact .inr ⟨a,h.put s⟩
def Gs.grow(h:Gs e fr m0 nl0 t0 m c nl t)(y:∀i o,fr<:+i->m0 i o=none)(f:BZ m0 e nl0 t0 emp=true):LK m e (.slice nl t xs):=by
 rcases h with ⟨rfl,rfl,d⟩|⟨a,h⟩
 ·exact dL f (λw v=>d _ _ (oT y v))
 ·obtain⟨z,j,b,r⟩:=h.name;exact .inr ⟨h.tok,by rw[b];simp⟩
def Gs.nil(h:Gs e fr m0 nl0 t0 m c nl t)(f:BZ m0 e nl0 t0 emp=true):nl=true->emp=true:=by
 rcases h with ⟨rfl,rfl,d⟩|⟨a,_⟩
 ·grind [BZ]
 ·rw[a];intro h;cases h
def Gs.app(h:Gs e fr m0 nl0 t0 m c nl t)(s:c<=k)(f:k<c'):Gd e fr m0 nl0 t0 (Hf.app m (Bh e (l++k::fr) (.slice nl t xs))) c' (l++k::fr):=by
 refine⟨⟨l,k,rfl,f⟩,by rw[De,if_pos ⟨rfl,rfl⟩],λi o hi=>?_⟩;have ga:i≠l++k::fr:=λe=>hi (e▸iL l k fr)
 rw[De,if_neg (λx=>ga x.1)];rcases h with ⟨rfl,rfl,d⟩|⟨rfl,h⟩
 ·grind [BM]
 ·obtain⟨z,j,b,r⟩:=h.name;have p:i≠t:=λe=>hi (by rw[e,b];exact iL z j fr)
  rw[if_neg (λx=>p x.2.1)];exact h.out i o hi
def Gd.fin(h:Gd e fr m0 nl0 t0 m c t)(j:∀i o,fr<:+i->m0 i o=none)(f:BZ m0 e nl0 t0 emp=true):∀i o x,Hf.app m0 (Bh e t (.slice nl0 t0 xs)) i o=some x->m i o=some x:=by
 intro i o x q;rw[De]at q;by_cases u:i=t∧o=0
 ·rw[if_pos u]at q;rw[u.1,u.2,h.tok];exact q
 ·rw[if_neg u]at q;by_cases y:nl0=false∧i=t0∧o=0
  ·obtain⟨rfl,rfl,rfl⟩:=y;rw[if_pos ⟨rfl,rfl,rfl⟩]at q;rw[h.out _ _ (oT j (EU f rfl)),if_neg U,BM,if_pos ⟨rfl,rfl⟩];exact q
  ·rw[if_neg y]at q;by_cases hi:fr<:+i
   ·simp_all
   ·rw[h.out i o hi];cases nl0 with
    |true=>exact q
    |false=>simp only[QS,if_false,BM];rw[if_neg (λx=>y ⟨rfl,x⟩)];exact q
end
def Ls{P:Program}{S:G8}{f:FuncId}{N:Nat}{dc:DC}{rs:List RV}(hS:G8.ok P S)(n:Fn P f N dc rs){q:HF}(z:∀ds m m' fr,(∀l∈q.rd ds m,m l.1 l.2=m' l.1 l.2)->q.ex ds m fr=q.ex ds m' fr)
  (hq:∀ds m fr r u,q.ex ds m fr=some (r,u)->(∀i o,fr<:+i->m i o=none)->ds.length<=N∧dc.wp S fr (Ea rs λd m'=>d=r∧∀i o x,Hf.app m u i o=some x->m' i o=some x) ⟨BI ds,m,0⟩):q.ok P f:=by
 obtain⟨fn,ca,t,y,a,h4,h5,h6⟩:=n.is;refine⟨⟨fn,t,Xu,a⟩,z,?_⟩;intro B w0 w m g fr ds vs r u hi ia hl b p;have j:∀k i,(k::fr)<:+i->B0 m g i:=λk i h=>ia i ((QI k fr).trans h)
 obtain⟨hN,za⟩:=hq ds m fr r u p (λi o h=>(ia i h).1 o);have s:=GE (ns:=fr) hS n hN hi j hl b za;refine s.mono ?_;rintro e w' ⟨v,d,m',g',rfl,fa,ma,xa,ab,rfl,ta⟩;refine⟨v,g',rfl,fa.less ta,ma,ab,λi n c=>?_⟩;obtain⟨k1,k2,k3⟩:=xa i n c;refine⟨λo=>?_,k2,k3⟩;cases hx:Hf.app m u i o with
 |none=>rfl
 |some x=>exact absurd (k1 o) (by rw[ta i o x hx];simp)
def gQ(e:Nat)(F:List D->Option (List D×List Nat)):HF where
 rd:=λds _=>match ds with
  | .slice _ t _::_=>[(t,0)]
  |_=>[]
 ex:=λds m fr=>match ds with
  | .slice nl t xs::rest=>if BZ m e nl t xs.isEmpty=true∧xs.length<=100000000 then(F rest).map λy=>(.slice false (y.2++fr) (xs++y.1),Bh e (y.2++fr) (.slice nl t xs))else none
  |_=>none
def aPH{e:Nat}{F:List D->Option (List D×List Nat)}(ds:List D)(m m':Ha)(fr:Id)(h:∀l∈(gQ e F).rd ds m,m l.1 l.2=m' l.1 l.2):(gQ e F).ex ds m fr=(gQ e F).ex ds m' fr:=by
 simp only[gQ]at h ⊢;split
 ·rename_i nl t xs v;rw[Ep (h (t,0) U)]
 ·rfl
def aPI{e:Nat}{F:List D->Option (List D×List Nat)}{ds:List D}{m:Ha}{fr:Id}{d:D}{u:Hf}(h:(gQ e F).ex ds m fr=some (d,u)):
  ∃nl t xs v ys l,ds= .slice nl t xs::v∧BZ m e nl t xs.isEmpty=true∧xs.length<=100000000∧F v=some (ys,l)∧d= .slice false (l++fr) (xs++ys)∧u=Bh e (l++fr) (.slice nl t xs):=by
 simp only[gQ]at h;split at h
 ·rename_i nl t xs v;split at h
  ·rename_i s;rw[Ql]at h;obtain⟨⟨ys,l⟩,f,h⟩:=h;simp only[Qs]at h;exact⟨nl,t,xs,v,ys,l,rfl,s.1,s.2,f,h.1.symm,h.2.symm⟩
  ·cases h
 ·cases h
def aKR{e:Nat}{F:List D->Option (List D×List Nat)}{m:Ha}{fr:Id}{nl:Bool}{t:Id}{xs v ys:List D}{l:List Nat}{K:D×Hf->Prop}{g}(h0:LK m e (.slice nl t xs))(r:nl=true->xs=[])(hl:xs.length<=100000000)(f:F v=some (ys,l))
  (h:K (.slice false (l++fr) (xs++ys),Bh e (l++fr) (.slice nl t xs))):Hq ((gQ e F).ex (.slice nl t xs::v) m fr) K g:=by
 refine aH ?_ h;have a:BZ m e nl t xs.isEmpty=true:=by
  unfold BZ;cases nl with
  |true=>rw[if_pos rfl,r rfl];rfl
  |false=>
   rcases h0 with h0|⟨u,y⟩
   ·cases h0
   ·simp_all
 simp only[gQ];rw[if_pos ⟨a,hl⟩,f];rfl
def iB:Nat->Int->List UInt8
 |0,_=>[]
 |k+1,n=>UInt8.ofNat ((n.fdiv (2 ^ (8*k))) % 256).toNat::iB k n
theorem beB_len:∀k n,(iB k n).length=k
 |0,_=>rfl
 |k+1,n=>by simp[iB,beB_len k n]
def GR:D->Bool
 | .int .u8 _=>true
 |_=>false
def grownQ:HF where
 rd:=λ_ _=>[]
 ex:=λds _ fr=>match ds with
  |[.slice _ _ xs,.int .i64 k]=>if 0<=k∧xs.all GR=true∧(xs.length:Int)+k<=140737488355328 then some (.slice false (0::fr) xs,[(0::fr,0,[.tok 6])])else none
  |_=>none
def cQ(e:Nat)(k:D->D)(F:List D->Option (List D×List Nat)):HF where
 rd:=λ_ _=>[]
 ex:=λds _ fr=>match ds with
  | .slice _ _ xs::rest=>if xs.all GR=true∧xs.length<=100000000 then(F rest).map λy=>(k (.slice false (y.2++fr) (xs++y.1)),[(y.2++fr,0,[.tok (e+1)])])else none
  |_=>none
def aP6{e:Nat}{k:D->D}{F:List D->Option (List D×List Nat)}{ds:List D}{m:Ha}{fr:Id}{d:D}{u:Hf}(h:(cQ e k F).ex ds m fr=some (d,u)):
  ∃nl t xs v ys l,ds= .slice nl t xs::v∧xs.all GR=true∧xs.length<=100000000∧F v=some (ys,l)∧d=k (.slice false (l++fr) (xs++ys))∧u=[(l++fr,0,[.tok (e+1)])]:=by
 simp only[cQ]at h;split at h
 ·rename_i nl t xs v;split at h
  ·rename_i s;rw[Ql]at h;obtain⟨⟨ys,l⟩,f,h⟩:=h;simp only[Qs]at h;exact⟨nl,t,xs,v,ys,l,rfl,s.1,s.2,f,h.1.symm,h.2.symm⟩
  ·cases h
 ·cases h
def aKS{e:Nat}{k:D->D}{F:List D->Option (List D×List Nat)}{m:Ha}{fr:Id}{nl:Bool}{t:Id}{xs v ys:List D}{l:List Nat}{K:D×Hf->Prop}{g}(x:xs.all GR=true)(hl:xs.length<=100000000)(f:F v=some (ys,l))
  (h:K (k (.slice false (l++fr) (xs++ys)),[(l++fr,0,[.tok (e+1)])])):Hq ((cQ e k F).ex (.slice nl t xs::v) m fr) K g:=by
 refine aH ?_ h;simp only[cQ];rw[if_pos ⟨x,hl⟩,f];rfl
def TX(a:List UInt8):(AH a).all GR=true:=by
 rw[Qt];intro x q;obtain⟨c,_,rfl⟩:=QZ.1 q;rfl
def Gd.finc{e:Nat}{fr:Id}{m0 m:Ha}{t0 t:Id}{c:Nat}(h:Gd e fr m0 true t0 m c t)(j:∀i o,fr<:+i->m0 i o=none):∀i o x,Hf.app m0 [(t,0,[.tok (e+1)])] i o=some x->m i o=some x:=
 h.fin (emp:=true) (xs:=[]) j (by unfold BZ;rfl)
def aB6{m:Ha}{fr:Id}{nl:Bool}{t:Id}{xs:List D}{k:Int}(s:0<=k)(x:xs.all GR=true)(hl:(xs.length:Int)+k<=140737488355328):grownQ.ex [.slice nl t xs,.int .i64 k] m fr=some (.slice false (0::fr) xs,[(0::fr,0,[.tok 6])]):=by
 grind [grownQ]
def SU{n:Int}(h:0<=n)(f:n<18446744073709551616):IntKind.u64.wrap n=n:=by
 have:IntKind.u64.wrap n=n % 18446744073709551616:=YC
 rw[this];omega
def aGw(d:D):D:= .tup [d,.int .i64 0]
def mQ(n:Nat)(F:List D->List D->Option (D×List D)):HF where
 rd:=λds _=>match ds with
  | .ptr i 0::_=>Ai i 0 n
  |_=>[]
 ex:=λds m _=>match ds with
  | .ptr i 0::rest=>match Ag m i 0 n with
   |some cs=>(F cs rest).map λy=>(y.1,[(i,0,y.2)])
   |none=>none
  |_=>none
def aOI{n:Nat}{F:List D->List D->Option (D×List D)}(ds:List D)(m m':Ha)(fr:Id)(h:∀l∈(mQ n F).rd ds m,m l.1 l.2=m' l.1 l.2):(mQ n F).ex ds m fr=(mQ n F).ex ds m' fr:=by
 grind [mQ,BF]
def U2{n:Nat}{F:List D->List D->Option (D×List D)}{i:Id}{m:Ha}{v:List D}{fr:Id}:(mQ n F).ex (.ptr i 0::v) m fr=(Ag m i 0 n).bind λcs=>(F cs v).map λy=>(y.1,[(i,0,y.2)]):=by
 grind [mQ,Ag]
def aOJ{n:Nat}{F:List D->List D->Option (D×List D)}{ds:List D}{m:Ha}{fr:Id}{r:D}{u:Hf}(h:(mQ n F).ex ds m fr=some (r,u)):
  ∃i v cs a,ds= .ptr i 0::v∧Ag m i 0 n=some cs∧F cs v=some (r,a)∧u=[(i,0,a)]:=by
 simp only[mQ]at h;split at h
 ·rename_i i v;split at h
  ·rename_i cs na;rw[Ql]at h;obtain⟨y,f,h⟩:=h;simp only[Qs]at h;obtain⟨rfl,rfl⟩:=h;exact⟨i,v,cs,y.2,rfl,na,f,rfl⟩
  ·cases h
 ·cases h
section
variable{m m':Ha}{i j:Id}{n o k:Nat}{cs ys:List D}{d:D}{fr:Id}
def Bb(h:Ag m i 0 n=some cs)(p:cs[k]?=some d):m i k=some d:=by
 grind [BE]
def UJ:∀{ds:List D} {m:Ha} {p:Nat},(∀k d,ds[k]?=some d->m i (p+k)=some d)->Ag m i p ds.length=some ds
 |[],m,p,_=>rfl
 |x::r,m,p,h=>by
  have f:=h 0 x rfl;rw[Q8]at f;have u:=UJ (ds:=r) (m:=m) (p:=p+1) (λk d s=>by
   have:=h (k+1) d XT;rw[show p+(k+1)=p+1+k by omega]at this;exact this)
  simp only[Ag,Qh,f,u,QO]
def iW(h:Ag m i 0 n=some cs)(t:o+k<=n):Ag m i o k=some ((cs.drop o).take k):=by
 obtain⟨u,y⟩:=BE h;have hl:((cs.drop o).take k).length=k:=YN
 have:=UJ (i:=i) (m:=m) (p:=o) (ds:=(cs.drop o).take k) (λq d s=>by
  rw[Zw]at s;split at s
  ·grind
  ·cases s)
 rw[hl]at this;exact this
def iX(h:Ag m i 0 n=some cs)(t:o+ys.length<=n):Ag (m.put i o ys) i 0 n=some (cs.take o++ys++cs.drop (o+ys.length)):=by
 obtain⟨u,y⟩:=BE h;have hl:(cs.take o++ys++cs.drop (o+ys.length)).length=n:=by simp only[Q6,List.length_take,ZA];omega
 have:=UJ (i:=i) (m:=m.put i o ys) (p:=0) (ds:=cs.take o++ys++cs.drop (o+ys.length)) (λq d s=>by
  rw[Qm];simp only[Ha.put];have a:(cs.take o).length=o:=XE
  by_cases v:q<o
  ·have z:¬(True∧o<=q∧q<o+ys.length):=by omega
   first
    |rw[if_neg Xb]
    |skip
   rw[Zc,QU O,Zw,if_pos v]at s;exact Bb h s
  ·by_cases g:q<o+ys.length
   ·rw[if_pos Xb];rw[Zc,Q2 O,a,QU O]at s;exact s
   ·rw[if_neg Xb];rw[Zc,Q2 O,a,Q2 O,List.getElem?_drop]at s;rw[show o+ys.length+(q-o-ys.length)=q by omega]at s;exact Bb h s)
 rw[hl]at this;exact this
def Ft(n:Nat)(i:Id)(m m':Ha):Prop:=∀(j:Id)(o:Nat)(x:D),(j≠i∨n<=o)->m j o=some x->m' j o=some x
def Ft.refl:Ft n i m m:=λ_ _ _ _ h=>h
def Ft.own(h:Ft n i m m')(g:o+ys.length<=n):Ft n i m (m'.put i o ys):=λj p x b q=>by
 have u:=h j p x b q;simp only[Ha.put];split
 ·grind
 ·exact u
def Ft.new(y:∀i o,fr<:+i->m i o=none)(l:List Nat)(h:Ft n i m m'):Ft n i m (m'.put (l++k::fr) o ys):=λj p x b q=>by
 have u:=h j p x b q;have t:j≠l++k::fr:=λe=>by
  rw[e,y _ _ ⟨l++[k],U⟩]at q;cases q
 rw[aA t];exact u
def bG(j:∀i o,fr<:+i->m i o=none)(h:Ft n i m m'):Ft n i m (m'.put (k::fr) o ys):=Ft.new j [] h
end
theorem aWO {P : Program} {S : G8} {f : FuncId} {N : Nat} {dc : DC} {rs : List RV} (hS : G8.ok P S) (hf : Fn P f N dc rs) {n : Nat} {F : List D → List D → Option (D × List D)} (hn : 0 < n) (hN : ∀ cs v y, F cs v = some y → v.length + 1 ≤ N)
  (h : ∀ (i : Id) (m : Ha) (fr : Id) (cs v : List D) (r : D) (a : List D), Ag m i 0 n = some cs → F cs v = some (r, a) → (∀ j o, fr <:+ j → m j o = none) → (∀ k l, (i = l ++ k :: fr) = False) → (∀ k, (i = k :: fr) = False) →
   dc.wp S fr (Ea rs fun d m' => d = r ∧ Ag m' i 0 n = some a ∧ Ft n i m m') ⟨BI (.ptr i 0 :: v), m, 0⟩) : (mQ n F).ok P f := by
 refine Ls hS hf aOI (fun ds m fr r u z ba => ?_)
 obtain ⟨i, v, cs, a, rfl, na, hF, rfl⟩ := aOJ z
 have va : ∃ x, m i 0 = some x := by
  obtain ⟨q, w⟩ := BE na
  have := w 0 hn
  rw [Qc O] at this
  exact ⟨_, this⟩
 obtain ⟨x0, g⟩ := va
 have ja : ∀ k l, (i = l ++ k :: fr) = False := fun k l => eq_false (fun e => by
  rw [e, ba _ _ ⟨l ++ [k], U⟩] at g
  cases g)
 refine ⟨hN _ _ _ hF, ?_⟩
 have hw := h i m fr cs v r a na hF ba ja (fun k => ja k [])
 refine Mp hw (fun e fa p => ?_)
 obtain ⟨c, d, t, rfl, qa, ho⟩ := p
 refine ⟨c, d, t, rfl, fun j o x s => ?_⟩
 obtain ⟨q, w⟩ := BE qa
 have pa : (m.put i 0 a) j o = some x := s
 by_cases hj : j = i
 ·subst hj
  by_cases b : o < n
  ·grind [Ha.put]
  ·have ka : m j o = some x := by
    simp only [Ha.put] at pa
    rw [if_neg (by simp; omega)] at pa
    exact pa
   exact ho j o x (.inr O) ka
 ·rw [aA hj] at pa
  exact ho j o x (.inl hj) pa
section
variable{α:Type}{mk:α->List D}{ok:α->Prop}{res:α->D}
open Classical in
def FX(mk:α->List D)(ok:α->Prop)(res:α->D):List D->Option D:=λds=>if h:∃a,ok a∧mk a=ds then some (res (Classical.choose h))else none
def B3(inj:∀a b,mk a=mk b->a=b){a:α}(x:ok a):FX mk ok res (mk a)=some (res a):=by
 have h:∃b,ok b∧mk b=mk a:=⟨a,x,rfl⟩;unfold FX;rw[dif_pos h,inj _ _ (Classical.choose_spec h).2]
def Dl{ds:List D}{r:D}(h:FX mk ok res ds=some r):∃a,ok a∧mk a=ds∧res a=r:=by
 unfold FX at h;split at h
 ·grind
 ·cases h
def C0{P:Program}{S:G8}{f:FuncId}{N:Nat}{s:DC}{rs:List RV}(w:G8.ok P S)(k:Fn P f N s rs)(b:∀a,(mk a).length<=N)
  (t:∀a,ok a->s.wp S [] (Ea rs λd _=>d.unR=res a∧(res a).calmR=true) ⟨BI (mk a),λ_ _=>none,0⟩):(Ac (FX mk ok res)).ok P f:=by
 refine AN w k (λds r h=>?_) (λds r h=>?_)
 ·obtain⟨a,_,rfl,_⟩:=Dl h;exact b a
 ·obtain⟨a,x,rfl,rfl⟩:=Dl h;exact t a x
end
def mkJ(p:List (List UInt8)×List UInt8):List D:=[.slice false [] (p.1.map .str),.str p.2]
def aG5(x y:List (List UInt8)×List UInt8)(e:mkJ x=mkJ y):x=y:=by
 simp only[mkJ,Qn,D.slice.injEq,D.str.injEq,true_and,and_true]at e;exact ZR ((List.map_inj_right (λa b h=>Xo)).1 e.1) e.2
def aK3:∀l:List (List UInt8),flat (l.map D.str)=l.map D.str
 |[]=>rfl
 |x::r=>by
  have ih:=aK3 r;simp only[Q0,flat,ih];rfl
def dD:List D->Option D:=FX mkJ (λp=>p.1≠[]∧p.1.length<=1000∧CH p.1<=1000000∧p.2.length<=1000∧(Lib.join p.1 p.2).length<=10000000) (λp=> .str (Lib.join p.1 p.2))
def aBR {P:Program} {ρ:Go.Shelf.Ren} (L:Go.Proofs.Lays.n156 P ρ) (X:Go.Proofs.Builder.Extra P ρ) (ga:∃fn,P.funcs[ρ.f 156]?=some fn∧fn.body.isSome=true∧(fn.name== "runtime.NumGoroutine")=false):(Ac dD).ok P (ρ.f 156):=by
 refine⟨ga,λds m m' fr _=>rfl,?_⟩;intro B w0 w m g fr ds vs r u hi ia hl ea y;simp only[Ac]at y;split at y
 ·rename_i ha;rw[Ql]at y;obtain⟨r',hr,y⟩:=y;simp only[Qs]at y;obtain⟨rfl,rfl⟩:=y;obtain⟨⟨l,s⟩,⟨t,h2,h3,h4,h5⟩,p,rfl⟩:=Dl hr;simp only at t h2 h3 h4 h5;have ba:∀(j:Nat) d v,(mkJ (l,s))[j]?=some d->vs[j]?=some v->Rep w g d v:=by
   intro j d v hd hv;rw[p,QN,Ql]at hd;obtain⟨d',ra,rfl⟩:=hd;exact(ea j d' v ra hv).un
  have ca:ds.length=2:=by
   have:=congrArg ZQ p;simpa[mkJ]using this.symm
  match vs,hl.trans ca with
  |[v,v1],_=>
   have r0:=ba 0 _ v rfl rfl;have r1:=ba 1 _ v1 rfl rfl;rw[r1.str_inv];obtain⟨ad,n,c,sz,ws,rfl,hn,za,la,xa,o,va,_⟩:=r0.slice_list;have ja:n=l.length:=by simpa using hn
   subst ja;have mb:sz=1:=by
    cases l with
    |nil=>exact absurd rfl t
    |cons x r=>exact(la (.str x) U).symm
   subst mb;have ya:=aK3 l;rw[ya]at o;have ka:∀(j:Nat) z,l[j]?=some z->w.cell? (ad.add j)=some (.string ⟨z.toArray⟩):=by
    intro j z hz;have hj:j<l.length:=(Qq.1 hz).1;have q:j<ws.length:=by rw[xa];omega
    have hd:(l.map D.str)[j]?=some (.str z):=by rw[QN,hz];rfl
    have:=o.2.2 j (.str z) ws[j] hd (Qc q);rw[va j ws[j] (Qc q),this.str_inv]
   obtain⟨b,off,k⟩:=ad;have ua:0<l.length:=List.length_pos_iff.2 t;have h:=ka 0 _ (Qc ua);have e:k=none:=by simpa[Addr.add]using World.cell?_spot h
   subst e;have a:b<w.heap.size:=by simpa[Addr.add]using World.block_lt_of_cell? _ _ h
   have da:(l.map λx=>(⟨x.toArray⟩:ByteArray)).map (·.data.toList)=l:=YB
   have hj:(⟨s.toArray⟩:ByteArray).data.toList=s:=rfl;have:=Go.Proofs.Any.strings_Join L X b off c (l.map λx=>(⟨x.toArray⟩:ByteArray)) ⟨s.toArray⟩ w (λj x hx=>by
    rw[QN,Ql]at hx;obtain⟨z,hz,rfl⟩:=hx;have:=ka j z hz;rw[FV]at this;exact this) a Xb Xb (by rw[da,hj];omega)
   rw[da,hj,Qy]at this;refine this.mono ?_;rintro ev w' ⟨rfl,hb⟩;exact⟨_,g.over w w',rfl,hi.over hb,Hr.over hi.gz hb,.str _,λi hf _=>hf⟩
 ·cases y
section
variable{α:Type}{mk:α->List D×List D}{ok:α->Prop}{res:α->D×List D}
end
section
variable{α:Type}{mk:α->List D×List D}{ok:α->Prop}{res:α->D×Id×(Id->List D)}
end
def aOO{R:St->Ex->St->Prop}(x:∀v w a m g,R v w a->R v m g->w=m∧a=g):∀{n1 v w a},Lp R n1 v w a->∀{n2 m g},Lp R n2 v m g->w=m∧a=g:=by
 intro n1 v w a u;induction u with
 |stop v e r h t=>
  intro n2 m g y;cases y with
  |stop _ _ _ f _=>exact x _ _ _ _ _ h f
  |more n _ st1 _ _ f _=>exact absurd (x _ _ _ _ _ h f).1 t
 |more n v st1 e r h hl ih=>
  intro n2 m g y;cases y with
  |stop _ _ _ f t=>exact absurd (x _ _ _ _ _ h f).1.symm t
  |more j _ k _ _ f b=>
   have:=(x _ _ _ _ _ h f).2;subst this;exact ih b
def aPN{S:G8}{ns:Id}:∀{s:DC} {v:St} {w:Ex} {r:St} {m:Ex} {g:St},Ev S ns s v w r->Ev S ns s v m g->w=m∧r=g:=by
 intro s;induction s with
 |skip=>rintro v w r m g ⟨rfl,rfl⟩ ⟨rfl,rfl⟩;exact⟨rfl,rfl⟩
 |ret=>rintro v w r m g ⟨rfl,rfl⟩ ⟨rfl,rfl⟩;exact⟨rfl,rfl⟩
 |exit i=>rintro v w r m g ⟨rfl,rfl⟩ ⟨rfl,rfl⟩;exact⟨rfl,rfl⟩
 |row ops=>
  rintro v w ⟨a1,x,c1⟩ m ⟨p,f,n⟩ ⟨rfl,u,z⟩ ⟨rfl,y,j⟩;rw[u]at y;simp only[Qb,Qs]at y;simp only at z j;exact⟨rfl,by rw[y.1,y.2,z,j]⟩
 |drawn ops ps=>
  rintro v w ⟨a1,x,c1⟩ m ⟨p,f,n⟩ ⟨rfl,⟨f1,u,_⟩,z⟩ ⟨rfl,⟨f2,y,_⟩,j⟩;rw[u]at y;simp only[Qb,Qs]at y;simp only at z j;exact⟨rfl,by rw[y.1,y.2.1,z,j]⟩
 |seq a b e d=>
  rintro v w r m g ⟨x1,y1,u,o⟩ ⟨q,y2,y,k2⟩;obtain⟨rfl,rfl⟩:=e u y;rcases o with ⟨n1,o⟩|⟨n1,rfl,rfl⟩<;>rcases k2 with ⟨n2,k2⟩|⟨n2,rfl,rfl⟩
  ·exact d o k2
  ·exact absurd n1 n2
  ·exact absurd n2 n1
  ·exact Y_
 |cond c a b e d=>
  rintro v w r m g u y;rcases u with ⟨k,u⟩|⟨k,u⟩<;>rcases y with ⟨t,y⟩|⟨t,y⟩
  ·exact e u y
  ·rw[k]at t;simp at t
  ·rw[k]at t;simp at t
  ·exact d u y
 |block i c ih=>
  rintro v w r m g ⟨x1,u,o⟩ ⟨q,y,k2⟩;obtain⟨rfl,rfl⟩:=ih u y;rcases o with ⟨n1,rfl⟩|⟨n1,rfl⟩<;>rcases k2 with ⟨n2,rfl⟩|⟨n2,rfl⟩
  ·exact Y_
  ·exact absurd n1 n2
  ·exact absurd n2 n1
  ·exact Y_
 |loop c ih=>
  rintro v w r m g ⟨n1,u⟩ ⟨n2,y⟩;exact aOO (R:=Ev S ns c) (λv w r m g h h'=>@ih v w r m g h h') u y
def RH{S:G8}{ns:Id}{s:DC}{rs:List RV}{z f:D->Ha->Prop}{v:St}(u:s.wp S ns (Ea rs z) v)(y:s.wp S ns (Ea rs f) v):∃d m,z d m∧f d m:=by
 obtain⟨w,r,a,_,t,k,c⟩:=u;obtain⟨e2,g,v2,_,i,o,e⟩:=y;obtain⟨rfl,rfl⟩:=aPN a v2;rw[k]at o;simp only[Qb]at o;subst o;exact⟨_,_,c,e⟩
def aAs(S:G8)(s:DC)(rs:List RV)(N:Nat)(ds:List D)(r:D):Prop:=ds.length<=N∧s.wp S [] (Ea rs λd _=>d.unR=r∧r.calmR=true) ⟨BI ds,λ_ _=>none,0⟩
open Classical in
def RF(S:G8)(s:DC)(rs:List RV)(N:Nat):List D->Option D:=λds=>if h:∃r,aAs S s rs N ds r then some (Classical.choose h)else none
def aAE{S:G8}{s:DC}{rs:List RV}{N:Nat}{ds:List D}{r:D}(h:RF S s rs N ds=some r):aAs S s rs N ds r:=by
 unfold RF at h;split at h
 ·grind
 ·cases h
def Al{S:G8}{s:DC}{rs:List RV}{N:Nat}{ds:List D}{r:D}(b:ds.length<=N)(h:s.wp S [] (Ea rs λd _=>d.unR=r∧r.calmR=true) ⟨BI ds,λ_ _=>none,0⟩):RF S s rs N ds=some r:=by
 have q:∃r,aAs S s rs N ds r:=⟨r,b,h⟩;unfold RF;rw[dif_pos q];obtain⟨d,_,u,y⟩:=RH (Classical.choose_spec q).2 h;rw[←u.1,y.1]
def Ap{P:Program}{S:G8}{f:FuncId}{N:Nat}{s:DC}{rs:List RV}(k:Fn P f N s rs)(w:G8.ok P S):(Ac (RF S s rs N)).ok P f:=
 AN w k (λds r h=>(aAE h).1) (λds r h=>(aAE h).2)
theorem Hx{m:Ha}{i:Id}{ds:List D}{n:Nat}(h:ds.length=n):Ag (m.put i 0 ds) i 0 n=some ds:=by
 subst h;exact UJ (λk d p=>by rw[aD (Qq.1 p).1,p])
def BO{S:G8}{ns:Id}{b:DC}{Q:Ex->St->Prop}{n:Nat}{I:Nat->St->Prop}(i:∀j,j<n->(∀v g,I (j+1) v->Be S ns b Q v g)->∀v g,I j v->Be S ns b Q v g)(r:∀v g,I n v->Be S ns b Q v g):∀j,j<=n->∀v g,I j v->Be S ns b Q v g:=by
 have z:∀f j,n=j+f->∀v g,I j v->Be S ns b Q v g:=by
  intro f;induction f with
  |zero=>
   intro j q v g e;have:j=n:=O
   subst this;exact r v g e
  |succ f ih=>intro j q v g e;exact i j O (λv g h=>ih (j+1) O v g h) v g e
 exact λj q=>z (n-j) j O
def aAr(S:G8)(s:DC)(rs:List RV)(N n:Nat)(cs v:List D)(y:D×List D):Prop:=cs.length=n∧v.length+1<=N∧∀(i:Id)(m:Ha)(fr:Id),Ag m i 0 n=some cs->(∀j o,fr<:+j->m j o=none)->(∀k l,(i=l++k::fr)=False)->(∀k,(i=k::fr)=False)->
 s.wp S fr (Ea rs λd m'=>d=y.1∧Ag m' i 0 n=some y.2∧Ft n i m m') ⟨BI (.ptr i 0::v),m,0⟩
def aGT(cs:List D)(n:Nat)(hl:cs.length=n)(g:0<n):∃m:Ha,Ag m [0] 0 n=some cs∧(∀j o,[1]<:+j->m j o=none)∧(∀k l,(([0]:Id)=l++k::[1])=False)∧(∀k,(([0]:Id)=k::[1])=False):=by
 refine⟨Ha.put (λ_ _=>none) [0] 0 cs,Hx hl,λj o q=>?_,λk l=>eq_false (λe=>?_),λk=>eq_false (λe=>by simp at e)⟩
 ·rw[aA];rintro rfl;obtain⟨t,p⟩:=q;have:=congrArg ZK p;simp at this
 ·have:=congrArg ZK e;simp at this
open Classical in
def RM(S:G8)(s:DC)(rs:List RV)(N n:Nat):List D->List D->Option (D×List D):=λcs v=>if h:∃y,aAr S s rs N n cs v y then some (Classical.choose h)else none
def aAB{S:G8}{s:DC}{rs:List RV}{N n:Nat}{cs v:List D}{y:D×List D}(h:RM S s rs N n cs v=some y):aAr S s rs N n cs v y:=by
 unfold RM at h;split at h
 ·grind
 ·cases h
def aR0{S:G8}{s:DC}{rs:List RV}{N n:Nat}{cs v:List D}{y:D×List D}(g:0<n)(hl:cs.length=n)(b:v.length+1<=N) (h:∀(i:Id)(m:Ha)(fr:Id),Ag m i 0 n=some cs->(∀j o,fr<:+j->m j o=none)->(∀k l,(i=l++k::fr)=False)->(∀k,(i=k::fr)=False)->
  s.wp S fr (Ea rs λd m'=>d=y.1∧Ag m' i 0 n=some y.2∧Ft n i m m') ⟨BI (.ptr i 0::v),m,0⟩):RM S s rs N n cs v=some y:=by
 have q:∃y,aAr S s rs N n cs v y:=⟨y,hl,b,h⟩;unfold RM;rw[dif_pos q];obtain⟨m,z,r,e,x⟩:=aGT cs n hl g;obtain⟨d,m',u,f⟩:=RH ((Classical.choose_spec q).2.2 [0] m [1] z r e x) (h [0] m [1] z r e x);have w:=u.1.symm.trans f.1;have e2:=u.2.1.symm.trans f.2.1;simp only[Qb]at e2;rw[show Classical.choose q=y from ZR w e2]
def aRZ{P:Program}{S:G8}{f:FuncId}{N n:Nat}{s:DC}{rs:List RV}(k:Fn P f N s rs)(g:0<n)(e:G8.ok P S):(mQ n (RM S s rs N n)).ok P f:=by
 refine aWO e k g (λcs v y o=>(aAB o).2.1) (λi m fr cs v r a na t j u w=>?_);exact(aAB t).2.2 i m fr na j u w
end Go.Vd
namespace Go.Vd
open Go.Proofs Go.RowKit
def aS3{x:D}{l:List D}{n:Nat}:(x::l).take (n+1)=x::l.take n:=rfl
def aS4{l:List D}:l.take 0=[]:=rfl
def aTj{l:List D}:l.drop 0=l:=rfl
def aTi{x:D}{l:List D}{n:Nat}:(x::l).drop (n+1)=l.drop n:=rfl
def aWH{x:D}{f:D->Option (List D)}:(some x).bind f=f x:=rfl
def aTa{f:D->Option (List D)}:(none:Option D).bind f=none:=rfl
def aWG{x:List D}{f:List D->List D}:(some x).map f=some (f x):=rfl
def aS9{x:List D}{f:List D->D}:(some x).map f=some (f x):=rfl
def aS8{x:D}{f:D->D}:(some x).map f=some (f x):=rfl
def aS7{x:D}{f:D->List D}:(some x).map f=some (f x):=rfl
def aWI{x:List D}:(some x).isSome=true:=rfl
def aTe{x:D}:(some x).isSome=true:=rfl
def aWK{a b:Nat}{l z:List Nat}:(a::l=b::z)=(a=b∧l=z):=U
def aTk{a:Nat}{l:List Nat}:(a::l=[])=False:=U
def aWL:(true=false)=False:=U
def aWM:(false=true)=False:=U
def aTd{m:Ha}{n:Nat}{i:Id}{o:Nat}:cX m (some n) (.ptr i o)=(Ag m i o n).map .agg:=rfl
def aTc{m:Ha}{i:Id}{o:Nat}:cX m none (.ptr i o)=m i o:=rfl
def aGC{s:Nat->D}{m:Ha}{k:Option Nat}{a b:Nat}:C_ [.t b,.cell k a] s m=(cX m k (s a)).map λd=> .tup [s b,d]:=by
 simp only[C_,H9,RV.of];cases cX m k (s a)<;>rfl
def aAG{s:Nat->D}{m:Ha}{k:Option Nat}{a b c:Nat}:C_ [.cell k a,.t b,.t c] s m=(cX m k (s a)).map λd=> .tup [d,s b,s c]:=by
 simp only[C_,H9,RV.of];cases cX m k (s a)<;>rfl
def UH{s:Nat->D}{m:Ha}{k:Option Nat}{a b c e:Nat}:C_ [.cell k a,.t b,.t c,.t e] s m=(cX m k (s a)).map λd=> .tup [d,s b,s c,s e]:=by
 simp only[C_,H9,RV.of];cases cX m k (s a)<;>rfl
def HU{s:Nat->D}{m:Ha}{k:Option Nat}{a b:Nat}:C_ [.cell k a,.t b] s m=(cX m k (s a)).map λd=> .tup [d,s b]:=by
 simp only[C_,H9,RV.of];cases cX m k (s a)<;>rfl
def aTh{cs:List D}:Cg cs []=some cs:=rfl
def aWJ{cs:List D}{o n:Nat}{d:D}{r:List (Nat×Nat×D)}:Cg cs ((o,n,d)::r)=if d.data=true∧d.cells.length=n∧o+n<=cs.length then Cg (FE cs o d.cells) r else none:=rfl
def aWF{cs ds:List D}{o:Nat}:FE cs o ds=cs.take o++ds++cs.drop (o+ds.length):=rfl
def aTb{nl:Bool}{t u:Id}{xs:List D}:MI 0 (.slice nl t xs) (.slice true u [])=some nl:=by cases nl<;>rfl
def aTo:(true !=false)=true:=rfl
def aTn:(false !=false)=false:=rfl
def aTm:(true !=true)=false:=rfl
def aTl:(false !=true)=true:=rfl
def aTf{m:Ha}{e:Nat}{f t:Id}{xs:List D}:Hf.app m (Bh e f (.slice true t xs))=m.put f 0 [.tok (e+1)]:=rfl
def aTg{m:Ha}{e:Nat}{f t:Id}{xs:List D}:Hf.app m (Bh e f (.slice false t xs))=(m.put t 0 [.tok 0]).put f 0 [.tok (e+1)]:=rfl
def aS6{x y:D}{l:List D}:(x::l).set 0 y=y::l:=rfl
def aS5{x y:D}{l:List D}{n:Nat}:(x::l).set (n+1) y=x::l.set n y:=rfl
set_option linter.defProp false
def G7:=Qa @Ah <| Qa @Av <| Qa @Aw <| Qa @Bx <| Qa @HU <| Qa @aGC <| Qa @aAG <| Qa @UH <| Qa @aTd <| Qa @aTc <| Qa @aS3 <| Qa @aS4 <| Qa @aTj <| Qa @aTi <| Qa @aWH <| Qa @aTa <| Qa @aWG <| Qa @aS9 <| Qa @aS8 <| Qa @aS7 <| Qa @aWI <| Qa @aTe <| Qa @aWK <| Qa @aTk <| Qa @aWL <| Qa @aWM <| Qa @Qx <| Qa @Qw <| Qa @Qm <| Qa @true_and <| Qa @and_true <| Qa @false_and <| Qa @and_false <| Qa @and_self <| Qa @Qp <| Qa @QQ <| Qa @Qv <| Qa @Nat.add_eq_right <| Qa @Bool.true_or <| Qa @Bool.or_true <| Qa @ZL <| Qa @ZM <| Qa @ZH <| Qa @ZD <| Qa @not_true_eq_false <| Qa @not_false_eq_true <| Qa @aTh <| Qa @aWJ <| Qa @aWF <| Qa @aS6 <| Qa @aS5 <| Qa @aTb <| Qa @aTf <| Qa @aTg <| Qa aTo <| Qa aTn <| Qa aTm aTl
def gZ1:=Qa Ho G7
abbrev Rw:=Int×Bool×Bool
def rwD(r:Rw):D:= .agg [.int .i64 r.1,.bool r.2.1,.bool r.2.2]
def A9(l:List Rw):List D:=l.map rwD
def AP(l:List Rw):(A9 l).length=l.length:=Qy ..
def EF{l:List Rw}{j:Nat}(h:j<l.length):(A9 l)[j]?=some (.agg [.int .i64 l[j].1,.bool l[j].2.1,.bool l[j].2.2]):=by simp[A9,rwD,Qc h]
structure Sc where
 mx:Int
 cas:Bool
 la:Int
 nl:Bool
 rs:List Rw
def Hg(s:Sc):List D:=[.int .i64 s.mx,.bool s.cas,.int .i64 s.la,.slice s.nl [] (A9 s.rs)]
def Cn:List Rw->Int->Bool
 |[],_=>true
 |x::r,a=>decide (a<x.1)&&Cn r x.1
def AR(s:Sc)(q:Int):Int:=if s.mx=0 then q else s.mx
def Gl(l:List Rw):Int:=match l.getLast? with
 |some x=>x.1
 |none=>0
def BU(s:Sc)(q:Int):Bool:=!decide (1<=q∧q<=6)||(!decide (0<=s.mx∧s.mx<=6)||(!decide (0<=s.la∧s.la<=30)||(decide (AR s q<s.rs.length)||(!Cn s.rs 0||!decide (Gl s.rs=s.la)))))
def Ss(s:Sc)(q:Int):Int:=if BU s q=true then 2 else 0
def aXv:=Ar []
def aQP:=RF aXv aLK [.t 2] 5
def aTV:Kq aQP 61:=Ap (Aj func61) Ad
def aIH(r:Rw):aQP [.agg [.int .i64 r.1,.bool r.2.1,.bool r.2.2]]=some (.int .i64 r.1):=by
 refine Al (QH rfl) ?_;unfold aLK;simp only[↓C2,G9,G7,simprocAttr]
 all_goals exact Y6
def aXr:=Ar []
def aIy:=RF aXr aLr [.cell (some 2) 0] 2
def aKr:Kq aIy 57:=Ap (Aj func57) Ad
def rL:aIy []=some (.agg [.int .i64 6,.bool false]):=by
 refine Al (QH rfl) ?_;unfold aLr;simp only[↓C2,G9,G7,simprocAttr]
 all_goals exact Y6
def aXB:=Ar []
def R8:=RF aXB aL5 [.cell (some 2) 0] 2
def aKx:Kq R8 273:=Ap (Aj func273) Ad
def rR:R8 []=some (.agg [.int .i64 6,.bool false]):=by
 refine Al (QH rfl) ?_;unfold aL5;simp only[↓C2,G9,G7,simprocAttr]
 all_goals exact Y6
def aXw:=Ar []
def aIJ:=RF aXw qH [.t 4] 12
def aKu:Kq aIJ 59:=Ap aKX Ad
def rO(s:Sc)(q:Int)(b:Bool):aIJ [.agg (Hg s),.agg [.int .i64 q,.bool b]]=some (.int .i64 (AR s q)):=by
 refine Al (QH rfl) ?_;unfold qH;unfold AR Hg;by_cases h:s.mx=0
 ·simp only[↓C2,G9,G7,simprocAttr,h]
  all_goals exact Y6
 ·simp only[↓C2,G9,G7,simprocAttr,h]
  all_goals exact Y6
def aQl:=Ar [(61,Ac aQP)]
def aQQ:=RF aQl qG [.t 4] 23
def aTW:Kq aQQ 60:=Ap aKW (Aa aTV Ad)
def aII{nl:Bool}{l:List Rw}(hl:l.length<=1000):aQQ [.slice nl [] (A9 l),.fn 61 []]=some (.bool (Cn l 0)):=by
 refine Al (QH rfl) ?_;unfold qG;simp only[↓C2,Hc,simprocAttr,AP];refine BO (n:=l.length) (I:=λj v=>v.s 8= .slice nl [] (A9 l)∧v.s 9= .int .i64 l.length∧v.s 10= .int .i64 (j:Int)∧v.s 1= .fn 61 []∧∃a,v.s 5= .int .i64 a∧Cn (l.drop j) a=Cn l 0) (λj hj ih v g hI=>?_) (λv g hI=>?_) 0 (Qx _) _ _ ⟨rfl,rfl,rfl,rfl,0,rfl,rfl⟩
 ·obtain⟨t,o,k⟩:=v;obtain⟨h8,y,i,u,a,m,r⟩:=hI;simp only at h8 y i u m;refine Af Pq.eq_1 ?_;have w:((j:Int)<l.length):=by omega
  have z:=nJ (j:=j);have f:=wJ (j:=j) O;have c:=EF hj;have p:l.drop j=l[j]::l.drop (j+1):=Q4 hj;have b:=aIH l[j];rw[p]at r;generalize l[j]=x at c r b p;by_cases q:x.1<=a
  ·have e:Cn l 0=false:=by rw[←r];simp[Cn];omega
   simp only[↓C2,G9,G7,simprocAttr,h8,y,i,u,m,w,z,Qj,c,Ae aQl 61,b,q];rw[e]
   all_goals exact Y6
  ·have e:Cn (l.drop (j+1)) x.1=Cn l 0:=by rw[←r];simp only[Cn];rw[decide_eq_true O];rfl
   simp only[↓C2,G9,G7,simprocAttr,h8,y,i,u,m,w,z,Qj,c,Ae aQl 61,b,q,f];exact ih _ _ ⟨h8,y,rfl,u,_,rfl,e⟩
 ·obtain⟨h8,y,i,u,a,m,r⟩:=hI;refine Af Pq.eq_1 ?_;have e:Cn l 0=true:=by rw[←r];simp[Cn]
  simp only[↓C2,G9,G7,simprocAttr,y,i,Zn];rw[e]
  all_goals exact Y6
def F6:G8:=Ar [(58,Ac gT),(59,Ac aIJ),(60,Ac aQQ)]
def Iq:List D->Option D:=RF F6 qL [.t 4] 52
def OE:Kq Iq 25:=Ap aK0 (Aa aAX (Aa aKu (Aa aTW Ad)))
def FR(s:Sc)(q:Int)(b:Bool)(hl:s.rs.length<=1000):Iq [.agg (Hg s),.agg [.int .i64 q,.bool b]]=some (.int .i64 (Ss s q)):=by
 refine Al (QH rfl) ?_;unfold qL;have d:=rO s q b;have f:=aII (nl:=s.nl) (l:=s.rs) hl;have c:∀x a b:Int,gT [.int .i64 x,.int .i64 a,.int .i64 b]=some (.bool (decide (a<=x∧x<=b))):=λ_ _ _=>rfl
 have r:IntKind.i64.wrap ((s.rs.length:Int)-1)=(s.rs.length:Int)-1:=Hy O O;have g:0<s.rs.length->∃x:Rw,Gl s.rs=x.1∧(A9 s.rs)[((s.rs.length:Int)-1).toNat]?=some (.agg [.int .i64 x.1,.bool x.2.1,.bool x.2.2]):=λh=>by
  have t:((s.rs.length:Int)-1).toNat=s.rs.length-1:=O
  refine⟨s.rs[s.rs.length-1],?_,by rw[t];exact EF O⟩;unfold Gl;rw[List.getLast?_eq_getElem?,Qc O]
 have y:¬0<s.rs.length->Gl s.rs=0:=λh=>by
  have:s.rs=[]:=Zo.1 O;rw[this];rfl
 unfold Ss BU;unfold Hg at d ⊢;generalize AR s q=z at d;generalize Cn s.rs 0=k at f;generalize Gl s.rs=nw at g y;by_cases c1:1<=q∧q<=6
 case neg=>
  simp only[↓C2,G9,G7,simprocAttr,Ae F6 58,c,c1]
  all_goals exact Y6
 by_cases n:0<=s.mx∧s.mx<=6
 case neg=>
  simp only[↓C2,G9,G7,simprocAttr,Ae F6 58,c,c1,n]
  all_goals exact Y6
 by_cases o:0<=s.la∧s.la<=30
 case neg=>
  simp only[↓C2,G9,G7,simprocAttr,Ae F6 58,c,c1,n,o]
  all_goals exact Y6
 by_cases v:z<s.rs.length
 case pos=>
  simp only[↓C2,G9,G7,simprocAttr,Ae F6 58,c,Ae F6 59,d,c1,n,o,v,AP];refine A1 ?_;simp only[↓C2,G9,G7,simprocAttr,v]
  all_goals exact Y6
 cases k with
 |false=>
  simp only[↓C2,G9,G7,simprocAttr,Ae F6 58,c,Ae F6 59,d,Ae F6 60,f,c1,n,o,v,AP];refine A1 ?_;simp only[↓C2,G9,G7,simprocAttr,v]
  all_goals exact Y6
 |true=>
  by_cases u:0<s.rs.length
  ·obtain⟨x,w,m⟩:=g u;have i:(0:Int)<(s.rs.length:Int):=by omega
   have j:(0:Int)<=(s.rs.length:Int)-1:=O
   subst w;by_cases p:x.1=s.la
   ·simp only[↓C2,G9,G7,simprocAttr,Ae F6 58,c,Ae F6 59,d,Ae F6 60,f,c1,n,o,v,p,AP];refine A1 ?_;simp only[↓C2,G9,G7,simprocAttr,c1,n,o,v,i,j,r,m,p,AP]
    all_goals exact Y6
   ·simp only[↓C2,G9,G7,simprocAttr,Ae F6 58,c,Ae F6 59,d,Ae F6 60,f,c1,n,o,v,p,AP];refine A1 ?_;simp only[↓C2,G9,G7,simprocAttr,c1,n,o,v,i,j,r,m,p,AP]
    all_goals exact Y6
  ·have w:=y u;have i:¬(0:Int)<(s.rs.length:Int):=by omega
   subst w;by_cases p:(0:Int)=s.la
   ·have e:((0:Int)=s.la)=True:=eq_true p;simp only[↓C2,G9,G7,simprocAttr,Ae F6 58,c,Ae F6 59,d,Ae F6 60,f,c1,n,o,v,e,AP];refine A1 ?_;simp only[↓C2,G9,G7,simprocAttr,c1,n,o,v,i,e,AP]
    all_goals exact Y6
   ·have e:((0:Int)=s.la)=False:=eq_false p;simp only[↓C2,G9,G7,simprocAttr,Ae F6 58,c,Ae F6 59,d,Ae F6 60,f,c1,n,o,v,e,AP];refine A1 ?_;simp only[↓C2,G9,G7,simprocAttr,c1,n,o,v,i,e,AP]
    all_goals exact Y6
def aUR:=y0 f80 [] []
def aM3:=y0 f133 [] []
def aM2:=y0 f135 [] []
def aUI:=y0 f40 [] []
def Px:=y1 f91 3 [] []
def aMw:=y0 f91 [] [(3,Px)]
def aMv:=y0 f92 [] []
def aM0:=y0 Tryz.f195 [(2,[(5,1),(5,8),(6,1),(6,8)])] []
def aUH:=y0 f134 [] []
def aMu:=y0 f198 [] []
def aHT:=y1 f253 3 [] []
def aHS:=y1 f253 11 [] []
def aU2:=y0 f253 [] [(3,aHT),(11,aHS)]
def aUQ:=y0 f196 [] []
def aUY:=y0 f81 [] []
def aUX:=y0 f13 [] []
def Pz:=y1 f19 3 [] []
def aMT:=y0 f19 [] [(3,Pz)]
def iI{a b:Bs}:AQ .lss (.str a) (.str b)=some (.bool (Op.bytesLess a b)):=Xm
def zU{a b:Bs}:AQ .gtr (.str a) (.str b)=some (.bool (!(Op.bytesLess a b||a==b))):=Xm
def CV(a b:Bs):Int:=if Op.bytesLess a b=true then-1 else if a=b then 0 else 1
def aJC:List D->Option D
 |[.str s]=>some (.bool false)
 |_=>none
def aSB:Kq aJC 113:=by
 refine AN (S:=λ_=>none) A8 (Aj func113:Fn Qf 113 6 aMj [.t 2]) (λds r h=>?_) (λds r h=>?_)
 ·unfold aJC at h;split at h
  ·simp
  ·cases h
 ·unfold aJC at h;split at h
  ·rename_i s;simp only[Qb]at h;subst h;unfold aMj;simp only[↓C2,G9,reduceIte,Qd,Qe,and_self]
  ·cases h
def O_:List D->Option D
 |[.str a,.str b]=>some (.int .i64 (CV a b))
 |_=>none
def oY:Kq O_ 62:=by
 obtain⟨S,w,hl⟩:=Bv (Aa aSB Ad);have c:=hl 113 _ rfl;clear hl;refine AN (S:=S) w (Aj func62:Fn Qf 62 20 aM4 [.t 4]) (λds r h=>?_) (λds r h=>?_)
 ·unfold O_ at h;split at h
  ·simp
  ·cases h
 ·unfold O_ at h;split at h
  ·rename_i a b;simp only[Qb]at h;subst h;unfold aM4;have d:∀s,aJC [.str s]=some (.bool false):=λ_=>rfl
   unfold CV;cases hl:Op.bytesLess a b with
   |true=>simp only[↓C2,G9,reduceIte,Qd,Qe,and_self,Ab c,d,iI,hl]
   |false=>
    by_cases p:a=b
    ·subst p;have z:(a==a)=true:=by simp
     simp only[↓C2,G9,reduceIte,Qd,Qe,and_self,Ab c,d,iI,zU,hl,z,ZL]
    ·have z:(a==b)=false:=by simpa using p
     simp only[↓C2,G9,reduceIte,Qd,Qe,and_self,Ab c,d,iI,zU,hl,z,p,ZM]
  ·cases h
def zD:List D->Option D
 |[.agg [.str p,.int .i64 q,.bool b],.agg [.str p2,.int .i64 q2,.bool b2]]=>some (.int .i64 (CV p p2))
 |_=>none
def aSW:Kq zD 192:=by
 obtain⟨S,w,hl⟩:=Bv (Aa oY Ad);have j:=hl 62 _ rfl;clear hl;refine AN (S:=S) w (Aj func192:Fn Qf 192 10 aM5 [.t 4]) (λds r h=>?_) (λds r h=>?_)
 ·unfold zD at h;split at h
  ·simp
  ·cases h
 ·unfold zD at h;split at h
  ·rename_i p q b k o f;simp only[Qb]at h;subst h;unfold aM5;have z:∀a b,O_ [.str a,.str b]=some (.int .i64 (CV a b)):=λ_ _=>rfl
   simp only[↓C2,G9,reduceIte,Qd,Qe,Ah,Qx,QL,Qw,Qh,Qk,Qm,Qg,and_self,Qn,Qp,QQ,Ab j,z]
  ·cases h
def zA:List D->Option D
 |[.agg [.str n,.str p,.slice nl t xs],.str s]=>some (.int .i64 (CV n s))
 |_=>none
def aSI:Kq zA 92:=by
 obtain⟨S,w,hl⟩:=Bv (Aa oY Ad);have j:=hl 62 _ rfl;clear hl;refine AN (S:=S) w (Aj func92:Fn Qf 92 9 aMv [.t 4]) (λds r h=>?_) (λds r h=>?_)
 ·unfold zA at h;split at h
  ·simp
  ·cases h
 ·unfold zA at h;split at h
  ·rename_i n p nl t xs s;simp only[Qb]at h;subst h;unfold aMv;have z:∀a b,O_ [.str a,.str b]=some (.int .i64 (CV a b)):=λ_ _=>rfl
   simp only[↓C2,G9,reduceIte,Qd,Qe,Ah,Qx,QL,Qw,Qh,Qk,Qm,Qg,and_self,Ab j,z]
  ·cases h
abbrev Tk:=Bs×Bs×Bool×List Rl
def PP(k:Tk):D:= .agg [.str k.1,.str k.2.1,.slice k.2.2.1 [] (As k.2.2.2)]
def AJ(l:List Tk):List D:=l.map PP
def tkT:D->Tk
 | .agg [.str n,.str p,.slice nl _ xs]=>(n,p,nl,Bo xs)
 |_=>([],[],true,[])
def Dv(xs:List D):List Tk:=xs.map tkT
def BL(l:List Tk):Dv (AJ l)=l:=by
 simp only[Dv,AJ,QJ]
 conv=>rhs;rw[←ZB l]
 exact QD λr _=>by simp only[Function.comp,PP,tkT,A5,id]
theorem B5(l:List Tk):(AJ l).length=l.length:=Qy ..
def Bu(l:List Tk)(j:Nat):Tk:=l.getD j ([],[],true,[])
def Lj{l:List Tk}{j:Nat}(h:j<l.length):(AJ l)[j]?=some (PP (Bu l j)):=by
 grind [AJ,Bu]
def bsR(l:List Tk)(s:Bs):Nat->Nat->Nat->Nat
 |0,lo,_=>lo
 |f+1,lo,hi=>if lo<hi then(if CV (Bu l ((lo+hi) / 2)).1 s<0 then bsR l s f ((lo+hi) / 2+1) hi else bsR l s f lo ((lo+hi) / 2))else lo
def LB(l:List Tk)(s:Bs):Nat:=bsR l s l.length 0 l.length
def A4(l:List Tk)(s:Bs):Bool:=decide (LB l s<l.length)&&decide (CV (Bu l (LB l s)).1 s=0)
def aP7{lo hi:Nat}(h:lo+hi<1000000000):IntKind.i64.wrap ((IntKind.u64.wrap (IntKind.i64.wrap ((lo:Int)+(hi:Int)))).fdiv (2 ^ min (1:Int).toNat IntKind.u64.bits))=(((lo+hi) / 2:Nat):Int):=by
 have u:IntKind.i64.wrap ((lo:Int)+(hi:Int))=((lo+hi:Nat):Int):=Xh
 have y:IntKind.u64.wrap ((lo+hi:Nat):Int)=((lo+hi:Nat):Int):=by
  simp only[IntKind.wrap,IntKind.signed,IntKind.bits,Za,QS,if_false];omega
 have i:(((lo+hi:Nat):Int)).fdiv (2 ^ min (1:Int).toNat IntKind.u64.bits)=(((lo+hi) / 2:Nat):Int):=by
  rw[show(2:Int) ^ min (1:Int).toNat IntKind.u64.bits=2 from rfl,Int.fdiv_eq_ediv_of_nonneg _ O];omega
 rw[u,y,i,Hy O O]
def aHi{S:G8}{ns:Id}{l:List Tk}{nl:Bool}{t:Id}{s:Bs}{Q:Ex->St->Prop}{e:Nat}(a:S 92=some (Ac zA))(o:l.length<=1000000)
  (x:∀v,v.s 0= .slice nl t (AJ l)->v.s 1= .str s->v.s 2= .fn 92 []->v.s 8= .int .i64 (l.length:Int)->v.s 9= .int .i64 (e:Int)->Q (.exit 0) v):
  ∀(f lo hi:Nat) v g,hi<=lo+f->hi<=l.length->bsR l s f lo hi=e->v.s 0= .slice nl t (AJ l)->v.s 1= .str s->v.s 2= .fn 92 []->v.s 8= .int .i64 (l.length:Int)->v.s 9= .int .i64 (lo:Int)->v.s 10= .int .i64 (hi:Int)->Be S ns Px Q v g:=by
 intro f;induction f with
 |zero=>
  intro lo hi v g hf hh r q u y h8 h9 la;refine Af Px.eq_1 ?_;have:¬((lo:Int)<hi):=O
  simp only[↓C2,Hc,Hl,reduceIte,Qd,Qe,h9,la,this];exact x _ q u y h8 (by rw[←r];exact h9)
 |succ f ih=>
  intro lo hi v g hf hh r q u y h8 h9 la;refine Af Px.eq_1 ?_;unfold bsR at r;by_cases da:lo<hi
  ·rw[if_pos da]at r;have b:((lo:Int)<hi):=by omega
   have h:=aP7 (lo:=lo) (hi:=hi) O;have za:(lo+hi) / 2<hi:=O
   have m:lo<=(lo+hi) / 2:=O
   generalize (lo+hi) / 2=mid at r h za m;have ra:(0:Int)<=(mid:Int):=O
   have i:(0:Int)<=1:=O
   have hw:IntKind.i64.wrap ((mid:Int)+1)=((mid+1:Nat):Int):=Hy O O;have ka:=Lj (l:=l) (j:=mid) O;generalize Bu l mid=k at ka r;obtain⟨n,p,w,rs⟩:=k;replace ka:(AJ l)[mid]?=some (.agg [.str n,.str p,.slice w [] (As rs)]):=ka;have d:zA [.agg [.str n,.str p,.slice w [] (As rs)],.str s]=some (.int .i64 (CV n s)):=rfl;simp only at r;generalize CV n s=c at r d;obtain⟨ma,ia,ea⟩:=v;simp only at q u y h8 h9 la;by_cases z:c<0
   ·rw[if_pos z]at r;simp only[↓C2,G9,reduceIte,Qd,Qe,q,u,y,h9,la,b,h,ra,i,hw,ka,z,Qj,Ab a,d,QY,Qh,Qk,Qm,Qu,Qz];exact ih (mid+1) hi _ _ O hh r q u y h8 rfl la
   ·rw[if_neg z]at r;simp only[↓C2,G9,reduceIte,Qd,Qe,q,u,y,h9,la,b,h,ra,i,ka,z,Qj,Ab a,d,QY,Qh,Qk,Qm,Qu,Qz];exact ih lo mid _ _ O O r q u y h8 h9 rfl
  ·rw[if_neg da]at r;have b:¬((lo:Int)<hi):=by omega
   simp only[↓C2,Hc,Hl,reduceIte,Qd,Qe,h9,la,b];exact x _ q u y h8 (by rw[←r];exact h9)
def VI(l:List Tk)(s:Bs):∀(f lo hi:Nat),lo<=hi->bsR l s f lo hi<=hi
 |0,lo,hi,h=>by simpa[bsR]using h
 |f+1,lo,hi,h=>by
  unfold bsR;split
  ·split
   ·exact VI l s f _ _ O
   ·exact QR (VI l s f _ _ O) O
  ·exact h
open Classical in
def aJJ:List D->Option D
 |[.slice _ _ xs,.str s,.fn 92 []]=>if xs=AJ (Dv xs)∧xs.length<=1000000 then some (.tup [.int .i64 (LB (Dv xs) s:Int),.bool (A4 (Dv xs) s)])else none
 |_=>none
open Classical in
def aJI{nl:Bool}{t:Id}{l:List Tk}{s:Bs}(hl:l.length<=1000000):aJJ [.slice nl t (AJ l),.str s,.fn 92 []]=some (.tup [.int .i64 (LB l s:Int),.bool (A4 l s)]):=by
 have h:AJ l=AJ (Dv (AJ l))∧(AJ l).length<=1000000:=by rw[BL,B5];exact⟨rfl,hl⟩
 show(if _ then _ else _)=_;rw[if_pos h,BL]
def aSJ:Kq aJJ 91:=by
 obtain⟨S,g,hl⟩:=Bv (Aa aSI Ad);have a:=hl 92 _ rfl;clear hl;refine AN (S:=S) g (Aj func91:Fn Qf 91 49 aMw [.t 6,.t 7]) (λds r h=>?_) (λds r h=>?_)
 ·unfold aJJ at h;split at h
  ·simp
  ·cases h
 ·unfold aJJ at h;split at h
  ·rename_i nl t xs s;split at h
   ·rename_i z;obtain⟨q,hl⟩:=z;simp only[Qb]at h;subst h;generalize Dv xs=l at q;subst q;rw[B5]at hl;have ta:LB l s<=l.length:=VI l s _ _ _ O;unfold aMw;simp only[↓C2,Hc,reduceIte,Qd,Qe,B5];refine aHi (l:=l) (nl:=nl) (t:=t) (s:=s) (e:=LB l s) a hl (λv f u y o h9=>?_) l.length 0 l.length _ _ O O rfl rfl rfl rfl rfl rfl rfl;unfold A4;generalize LB l s=i at h9 ta;by_cases hi:i<l.length
    ·have ba:((i:Int)<l.length):=by omega
     have x:(0:Int)<=(i:Int):=O
     have c:=Lj (l:=l) (j:=i) hi;generalize Bu l i=k at c;obtain⟨n,p,w,rs⟩:=k;replace c:(AJ l)[i]?=some (.agg [.str n,.str p,.slice w [] (As rs)]):=c;have d:zA [.agg [.str n,.str p,.slice w [] (As rs)],.str s]=some (.int .i64 (CV n s)):=rfl;simp only[↓C2,G9,reduceIte,Qd,Qe,f,u,y,o,h9,ba,x,c,Qj,Ab a,d,QY,Qh,Qk,Qm,Qu,Qz];simp[hi]
    ·have ba:¬((i:Int)<l.length):=by omega
     simp only[↓C2,G9,reduceIte,Qd,Qe,o,h9,ba];simp[hi]
   ·cases h
  ·cases h
def nQ(l:List Tk):(AJ l).map D.un=AJ l:=by rw[AJ,QJ];exact QD λ_ _=>rfl
def sX(l:List Tk):aE (AJ l) 3=3:=XH
def Fz(xs:List D):Prop:=xs=AJ (Dv xs)∧xs.length<=1000000
def E_{l:List Tk}(hl:l.length<=1000000):Fz (AJ l):=⟨by rw[BL],by rw[B5];exact hl⟩
def EQ{xs:List D}(h:Fz xs):∃l:List Tk,xs=AJ l∧l.length<=1000000∧Dv xs=l:=by
 refine⟨Dv xs,h.1,?_,rfl⟩;have:=h.2;rw[h.1,B5]at this;exact this
open Classical in
def F93:List D->Option D
 |[.agg [.slice _ _ xs],.str s]=>if Fz xs then some (.tup [.int .i64 (LB (Dv xs) s:Int),.bool (A4 (Dv xs) s)])else none
 |_=>none
open Classical in
def Oi{nl:Bool}{t:Id}{l:List Tk}{s:Bs}(hl:l.length<=1000000):F93 [.agg [.slice nl t (AJ l)],.str s]=some (.tup [.int .i64 (LB l s:Int),.bool (A4 l s)]):=by
 show(if _ then _ else _)=_;rw[if_pos (E_ hl),BL]
def aAV:Kq F93 40:=by
 obtain⟨S,w,hl⟩:=Bv (Aa aSJ Ad);have b:=hl 91 _ rfl;clear hl;refine AN (S:=S) w (Aj func40:Fn Qf 40 12 aUI [.t 4,.t 5]) (λds r h=>?_) (λds r h=>?_)
 ·unfold F93 at h;split at h
  ·simp
  ·cases h
 ·unfold F93 at h;split at h
  ·rename_i nl t xs s;split at h
   ·rename_i z;obtain⟨l,rfl,hl,e⟩:=EQ z;simp only[Qb]at h;subst h;rw[e];have a:=aJI (nl:=nl) (t:=[]) (s:=s) hl;unfold aUI;simp only[↓C2,Ho,simprocAttr,Ah,Ab b,a]
   ·cases h
  ·cases h
open Classical in
def F36:List D->Option D
 |[.agg [.slice _ _ xs],.str s,.str p]=>if Fz xs∧∀k∈Dv xs,k.2.2.2.length<=1000000 then some (.int .u8 (if A4 (Dv xs) s=true then Ds (Bu (Dv xs) (LB (Dv xs) s)).2.2.2 p else 0))else none
 |_=>none
def aWB:Kq F36 13:=by
 obtain⟨S,g,hl⟩:=Bv (Aa aAV (Aa aOA Ad));have b:=hl 40 _ rfl;have z:=hl 41 _ rfl;clear hl;refine AN (S:=S) g (Aj func13:Fn Qf 13 25 aUX [.t 6]) (λds r h=>?_) (λds r h=>?_)
 ·unfold F36 at h;split at h
  ·simp
  ·cases h
 ·unfold F36 at h;split at h
  ·rename_i nl t xs s p;split at h
   ·rename_i hc;obtain⟨hc,y⟩:=hc;obtain⟨l,rfl,hl,e⟩:=EQ hc;rw[e]at y h;simp only[Qb]at h;subst h;have o:=Oi (nl:=nl) (t:=[]) (s:=s) hl;have hu:=nQ l;unfold aUX;cases hf:A4 l s with
    |false=>simp only[↓C2,Ho,simprocAttr,Ah,Av,Aw,Qi,Ab b,o,hf]
    |true=>
     have hi:LB l s<l.length:=by
      grind [A4]
     rw[hf]at o;generalize LB l s=i at o hi;have x:(0:Int)<=(i:Int):=O
     have c:=Lj (l:=l) (j:=i) hi;have w:Bu l i∈l:=by simp[Bu,Qc hi]
     have u:=y _ w;generalize Bu l i=k at c u;obtain⟨n,q,v,rs⟩:=k;replace c:(AJ l)[i]?=some (.agg [.str n,.str q,.slice v [] (As rs)]):=c;have a:=nA (nl:=v) (t:=[]) (s:=p) u;simp only[↓C2,Ho,simprocAttr,Ah,Av,Aw,Qi,QB,QE,QP,Ab b,o,Ab z,a,x,c,Qj]
   ·cases h
  ·cases h
def LV(n p:Bs)(l:List Rl):Int:=if BX n=false then 2 else if Cw l≠0 then Cw l else if p=[]∧n=[114,111,111,116]then 0 else if BX p=true∧p≠n then 0 else 2
open Classical in
def zC:List D->Option D
 |[.agg [.str n,.str p,.slice _ _ xs]]=>if(xs=As (Bo xs)∧xs.length<=1000000∧Cr (Bo xs))∧n.length<=1000000∧p.length<=1000000 then some (.int .i64 (LV n p (Bo xs)))else none
 |_=>none
open Classical in
def We{n p:Bs}{nl:Bool}{t:Id}{l:List Rl}(hl:l.length<=1000000)(c:Cr l)(u:n.length<=1000000)(y:p.length<=1000000):zC [.agg [.str n,.str p,.slice nl t (As l)]]=some (.int .i64 (LV n p l)):=by
 have h:(As l=As (Bo (As l))∧(As l).length<=1000000∧Cr (Bo (As l)))∧n.length<=1000000∧p.length<=1000000:=by rw[A5,A2];exact⟨⟨rfl,hl,c⟩,u,y⟩
 show(if _ then _ else _)=_;rw[if_pos h,A5]
def aKm:Kq zC 135:=by
 obtain⟨S,w,hl⟩:=Bv (Aa aSA (Aa bV Ad));have b:=hl 199 _ rfl;have u:=hl 168 _ rfl;clear hl;refine AN (S:=S) w (Aj func135:Fn Qf 135 34 aM2 [.t 2]) (λds r h=>?_) (λds r h=>?_)
 ·unfold zC at h;split at h
  ·simp
  ·cases h
 ·unfold zC at h;split at h
  ·rename_i n p nl t xs;split at h
   ·rename_i z;obtain⟨⟨q,hl,k⟩,g,o⟩:=z;simp only[Qb]at h;subst h;generalize Bo xs=l at q k;subst q;rw[A2]at hl;have a:aFx [.str n]=some (.bool (BX n)):=if_pos g;have c:aFx [.str p]=some (.bool (BX p)):=if_pos o;have f:=V3 (nl:=nl) (t:=[]) hl k;have hu:=UG l;have i:=NE l;unfold aM2 LV;generalize Cw l=e at *;generalize BX p=m at *;generalize BX n=y at *;cases y with
    |false=>simp only[↓C2,G9,simprocAttr,Ah,Qx,Qw,Qh,Qk,Qm,Qg,and_self,Ab b,a]
    |true=>
     simp only[↓C2,Ho,simprocAttr,Ah,Ab b,a,Ab u,f]
     repeat' (first|(refine aF (λh=>?_) (λh=>?_)<;>try (exfalso;omega))|(simp only[↓C2,Ho,simprocAttr,h,Ah,false_and,Ab b,c]))
     all_goals (try simp_all)
   ·cases h
  ·cases h
def Bd{s:Nat->D}{m:Ha}{k:Option Nat}{a b:Nat}:C_ [.cell k a,.t b] s m=(cX m k (s a)).map λd=> .tup [d,s b]:=by
 simp only[C_,H9,RV.of];cases cX m k (s a)<;>rfl
def Ml:(true !=false)=true:=rfl
def aP8:(false !=false)=false:=rfl
def Ot(nl:Bool)(xs:List D):Prop:=xs=As (Bo xs)∧xs.length<=1000000∧(nl=true->xs=[])
def Mx{nl:Bool}{l:List Rl}(hl:l.length<=1000000)(g:nl=true->l=[]):Ot nl (As l):=⟨by rw[A5],by rw[A2];exact hl,λh=>by rw[g h];rfl⟩
def Lo{nl:Bool}{xs:List D}(h:Ot nl xs):∃l:List Rl,xs=As l∧l.length<=1000000∧(nl=true->l=[])∧Bo xs=l:=by
 refine⟨Bo xs,h.1,?_,λg=>?_,rfl⟩
 ·have:=h.2.1;rw[h.1,A2]at this;exact this
 ·rw[h.2.2 g];rfl
open Classical in
def aJH:List D->Option D
 |[.slice nl _ xs]=>if Ot nl xs then some (.slice nl [] xs)else none
 |_=>none
open Classical in
def aJG{nl:Bool}{t:Id}{l:List Rl}(hl:l.length<=1000000)(g:nl=true->l=[]):aJH [.slice nl t (As l)]=some (.slice nl [] (As l)):=by
 show(if _ then _ else _)=_;rw[if_pos (Mx hl g)]
def aSH:Kq aJH 198:=by
 refine AN (S:=λ_=>none) A8 (Aj func198:Fn Qf 198 8 aMu [.t 2]) (λds r h=>?_) (λds r h=>?_)
 ·unfold aJH at h;split at h
  ·simp
  ·cases h
 ·unfold aJH at h;split at h
  ·rename_i nl t xs;split at h
   ·rename_i z;obtain⟨l,rfl,hl,g,e⟩:=Lo z;simp only[Qb]at h;subst h;have n1:(As l).length*25<=140737488355328:=by rw[A2];omega
    unfold aMu;cases nl with
    |true=>
     have:=g rfl;subst this;simp only[↓C2,G9,simprocAttr,Ml,MI];rfl
    |false=>simp only[↓C2,G9,simprocAttr,Ah,Qx,Qw,Qh,Qk,Qm,Qg,and_self,false_and,aP8,n1,kT,dK,Ta,false_or,Q_,ne_eq,QV,Zi,MI]
   ·cases h
  ·cases h
open Classical in
def F94:List D->Option D
 |[.agg [.str n,.str p,.slice nl _ xs]]=>if Ot nl xs then some (.agg [.str n,.str p,.slice nl [] xs])else none
 |_=>none
open Classical in
def aFn{n p:Bs}{nl:Bool}{t:Id}{l:List Rl}(hl:l.length<=1000000)(g:nl=true->l=[]):F94 [.agg [.str n,.str p,.slice nl t (As l)]]=some (.agg [.str n,.str p,.slice nl [] (As l)]):=by
 show(if _ then _ else _)=_;rw[if_pos (Mx hl g)]
def aR9:Kq F94 134:=by
 obtain⟨S,w,hl⟩:=Bv (Aa aSH Ad);have a:=hl 198 _ rfl;clear hl;refine AN (S:=S) w (Aj func134:Fn Qf 134 8 aUH [.cell (some 3) 2]) (λds r h=>?_) (λds r h=>?_)
 ·unfold F94 at h;split at h
  ·simp
  ·cases h
 ·unfold F94 at h;split at h
  ·rename_i n p nl t xs;split at h
   ·rename_i z;obtain⟨l,rfl,hl,g,e⟩:=Lo z;simp only[Qb]at h;subst h;have b:=aJG (t:=[]) hl g;unfold aUH;simp only[↓C2,Ho,simprocAttr,Ah,Av,Aw,Qi,Qo,Qn,Qp,and_false,Qv,Bx,AW,Ab a,b]
   ·cases h
  ·cases h
def aAf(k:Tk):Prop:=k.2.2.2.length<=1000000∧(k.2.2.1=true->k.2.2.2=[])
open Classical in
def F35:List D->Option D
 |[.agg [.slice _ _ xs],.str s]=>if Fz xs∧∀k∈Dv xs,aAf k then some (.tup (if A4 (Dv xs) s=true then [PP (Bu (Dv xs) (LB (Dv xs) s)),.bool true]else [.agg [.str [],.str [],.slice true [] []],.bool false]))else none
 |_=>none
def aSe:Kq F35 81:=by
 obtain⟨S,g,hl⟩:=Bv (Aa aAV (Aa aR9 Ad));have ea:=hl 40 _ rfl;have b:=hl 134 _ rfl;clear hl;refine AN (S:=S) g (Aj func81:Fn Qf 81 23 aUY [.cell (some 3) 4,.t 5]) (λds r h=>?_) (λds r h=>?_)
 ·unfold F35 at h;split at h
  ·simp
  ·cases h
 ·unfold F35 at h;split at h
  ·rename_i nl t xs s;split at h
   ·rename_i z;obtain⟨z,y⟩:=z;obtain⟨l,rfl,hl,e⟩:=EQ z;rw[e]at y h;simp only[Qb]at h;subst h;have o:=Oi (nl:=nl) (t:=[]) (s:=s) hl;have hu:=nQ l;unfold aUY;cases hf:A4 l s with
    |false=>simp only[↓C2,Ho,simprocAttr,Ah,Av,Aw,Qi,Qo,Qn,Qp,and_false,Qv,AW,Bd,Cg,Ab ea,o,hf]
    |true=>
     have hi:LB l s<l.length:=by
      grind [A4]
     rw[hf]at o;generalize LB l s=i at o hi;have va:(0:Int)<=(i:Int):=O
     have c:=Lj (l:=l) (j:=i) hi;have w:Bu l i∈l:=by simp[Bu,Qc hi]
     have u:=y _ w;generalize Bu l i=k at c u;obtain⟨n,q,v,rs⟩:=k;replace c:(AJ l)[i]?=some (.agg [.str n,.str q,.slice v [] (As rs)]):=c;have x:=aFn (n:=n) (p:=q) (t:=[]) u.1 u.2;simp only[↓C2,Ho,simprocAttr,Ah,Av,Aw,Qi,Qu,Qz,Qo,Qn,Qp,and_false,Qv,AW,Bd,Ab ea,o,Ab b,x,va,c,Qj,PP]
   ·cases h
  ·cases h
def aHW:=y1 f190 3 [] []
def aHV:=y1 f190 11 [] []
def aU5:=y0 f190 [] [(3,aHW),(11,aHV)]
def aK2:Fn Qf 190 36 aU5 [.t 2]:=Aj func190
abbrev sz3:D->Bool:=gZ 3
def OR:List D->Option D
 |[.slice _ _ L]=>match Fi L with
  |some ys=>if L.length<=1000∧0<ys.length∧ys.length<=100000∧ys.all sz3=true then some (.slice false [] ys)else none
  |none=>none
 |_=>none
set_option maxRecDepth 20000 in
def Wm(w:World)(k:Nat)(f:0<k)(s:k<=1000000):
  Calls Qf 306 #[.slice none 0 0,.int .i64 (k:Int)] w λe m=>e= .returned (.slice (some ⟨w.heap.size,0,none⟩) 0 (grownCap w k 0 107))∧m=w.drew.alloc (.cells (Builtin.zeroCells #[.string .empty,.string .empty,.slice none 0 0] k++Builtin.zeroCells #[.string .empty,.string .empty,.slice none 0 0] (grownCap w k 0 107-k)) 107):=by
 have z:=Lib.run_append_nil_zeros (P:=Qf) w 29 3 29 107 t107 (.agg #[.string .empty,.string .empty,.slice none 0 0]) .i64 .i64 underlying29 underlying3 Z Z k f V O (by show k*56<=_;omega)
 go_enter func306,ntmps306
 go_wp2_with (first|(at_builtin;refine Lib.wpList_append_run _ rfl _ _ _ _ rfl _ _ rfl rfl _ _ z ?_))
 all_goals go_ret
 all_goals exact⟨rfl,rfl⟩
def aSk:(DK 107).ok Qf 306:=by
 refine MT (sz:=3) ⟨_,func306,Z,Z⟩ V ⟨t107,(.agg #[.string .empty,.string .empty,.slice none 0 0]),Z,Z,Z,Z⟩ (λw k f s=>?_);refine(Wm w k f s).mono ?_;rintro e m ⟨rfl,rfl⟩;refine⟨_,_,grownCap_le_maxLen w k 0 107 Xp,?_,rfl,rfl⟩;have o:=grownCap_ge w k 0 107;simp only[Zx,size_zeroCells];simp;omega
def TP{ds:List D}{r:D}(h:OR ds=some r):∃nl t L ys,ds=[.slice nl t L]∧Fi L=some ys∧L.length<=1000∧0<ys.length∧ys.length<=100000∧ys.all (gZ 3)=true∧r= .slice false [] ys:=by
 unfold OR at h;split at h
 ·grind
 ·cases h
def aSy(a:(DK 107).ok Qf 306):Kq OR 253:=qW (pt:=9) (bytes:=56) (Aj func253:Fn Qf 253 36 aU2 [.t 2]) O a λ_ _ h=>TP h
set_option maxRecDepth 20000 in
def Wn(w:World)(k:Nat)(f:0<k)(s:k<=1000000):
  Calls Qf 250 #[.slice none 0 0,.int .i64 (k:Int)] w λe m=>e= .returned (.slice (some ⟨w.heap.size,0,none⟩) 0 (grownCap w k 0 68))∧m=w.drew.alloc (.cells (Builtin.zeroCells #[.string .empty,.int .i64 0,.bool false] k++Builtin.zeroCells #[.string .empty,.int .i64 0,.bool false] (grownCap w k 0 68-k)) 68):=by
 have z:=Lib.run_append_nil_zeros (P:=Qf) w 26 3 26 68 t68 (.agg #[.string .empty,.int .i64 0,.bool false]) .i64 .i64 underlying26 underlying3 Z Z k f V O (by show k*32<=_;omega)
 go_enter func250,ntmps250
 go_wp2_with (first|(at_builtin;refine Lib.wpList_append_run _ rfl _ _ _ _ rfl _ _ rfl rfl _ _ z ?_))
 all_goals go_ret
 all_goals exact⟨rfl,rfl⟩
def aKg:(DK 68).ok Qf 250:=by
 refine MT (sz:=3) ⟨_,func250,Z,Z⟩ V ⟨t68,(.agg #[.string .empty,.int .i64 0,.bool false]),Z,Z,Z,Z⟩ (λw k f s=>?_);refine(Wn w k f s).mono ?_;rintro e m ⟨rfl,rfl⟩;refine⟨_,_,grownCap_le_maxLen w k 0 68 Xp,?_,rfl,rfl⟩;have o:=grownCap_ge w k 0 68;simp only[Zx,size_zeroCells];simp;omega
def aSY(a:(DK 68).ok Qf 250):Kq OR 190:=qW (pt:=9) (bytes:=32) aK2 O a λ_ _ h=>TP h
def CD:Tk:=([114,111,111,116],[],false,[([],63)])
def aJW:List D->Option D
 |[]=>some (PP CD)
 |_=>none
def aSV:Kq aJW 133:=by
 refine AN (S:=λ_=>none) A8 (Aj func133:Fn Qf 133 4 aM3 [.cell (some 3) 0]) (λds r h=>?_) (λds r h=>?_)
 ·grind [aJW]
 ·unfold aJW at h;split at h
  ·simp only[Qb]at h;subst h;unfold aM3;simp only[↓C2,Ho,simprocAttr,Ah,Av,Aw,Qi,Qu,Qz,Qo,QB,QE,Qn,Qp,and_false,Qv,Bx,AW,Cg,FE,Q_,QV,Zi,PP,CD,As,rlD,Q0,QV]
  ·cases h
def F48:List D->Option D
 |[]=>some (.agg [.slice false [] (AJ [CD])])
 |_=>none
def aSa:Kq F48 80:=by
 obtain⟨S,w,hl⟩:=Bv (Aa aSV Ad);have a:=hl 133 _ rfl;clear hl;refine AN (S:=S) w (Aj func80:Fn Qf 80 4 aUR [.cell (some 1) 0]) (λds r h=>?_) (λds r h=>?_)
 ·grind [F48]
 ·unfold F48 at h;split at h
  ·simp only[Qb]at h;subst h;have b:aJW []=some (.agg [.str [114,111,111,116],.str [],.slice false [] [.agg [.str [],.int .u8 63]]]):=rfl;unfold aUR;simp only[↓C2,G9,simprocAttr,Ah,Av,Aw,Qx,Qw,Qh,Qk,Qm,Qg,and_self,Qi,Qz,Qo,QB,QE,Qn,Qp,Qv,Bx,AW,Cg,FE,Q_,QV,Zi,Ab a,b,AJ,PP,CD,As,rlD,Q0,QV]
  ·cases h
def EX(l:List Tk)(k:Tk):List Tk:=l.take (LB l k.1)++k::l.drop (LB l k.1)
open Classical in
def aJV:List D->Option D
 |[.agg [.slice _ _ xs],.agg [.str n,.str p,.slice nl _ ys]]=>if Fz xs∧xs.length<=90000∧Ot nl ys then some (.agg [.slice false [] (AJ (EX (Dv xs) (n,p,nl,Bo ys)))])else none
 |_=>none
open Classical in
def aJU{nl0 nl:Bool}{t0 t:Id}{l:List Tk}{n p:Bs}{rs:List Rl}(hl:l.length<=90000)(j:rs.length<=1000000)(g:nl=true->rs=[]):
  aJV [.agg [.slice nl0 t0 (AJ l)],.agg [.str n,.str p,.slice nl t (As rs)]]=some (.agg [.slice false [] (AJ (EX l (n,p,nl,rs)))]):=by
 have h:Fz (AJ l)∧(AJ l).length<=90000∧Ot nl (As rs):=⟨E_ O,by rw[B5];exact hl,Mx j g⟩;show(if _ then _ else _)=_;rw[if_pos h,BL,A5]
def aST:Kq aJV 195:=by
 obtain⟨S,g,hl⟩:=Bv (Aa aAV (Aa aR9 (Aa (aSy aSk) Ad)));have k:=hl 40 _ rfl;have b:=hl 134 _ rfl;have c:=hl 253 _ rfl;clear hl;refine AN (S:=S) g (Aj func195:Fn Qf 195 28 aM0 [.cell (some 1) 4]) (λds r h=>?_) (λds r h=>?_)
 ·unfold aJV at h;split at h
  ·simp
  ·cases h
 ·unfold aJV at h;split at h
  ·rename_i nl0 t0 xs n p nl t ys;split at h
   ·rename_i hc;obtain⟨hc,h9,j⟩:=hc;obtain⟨l,rfl,hl,e⟩:=EQ hc;obtain⟨rs,rfl,f,m,v⟩:=Lo j;rw[e,v]at h;rw[B5]at h9;simp only[Qb]at h;subst h;have o:=Oi (nl:=nl0) (t:=[]) (s:=n) hl;have ha:=aFn (n:=n) (p:=p) (t:=[]) f m;have ta:LB l n<=l.length:=VI l n _ _ _ O;unfold EX;generalize LB l n=i at o ta;generalize A4 l n=fd at o;have va:(0:Int)<=(i:Int):=by omega
    have a:(i:Int)<=(l.length:Int):=O
    have ya:l.length<=l.length:=QA _;have z:(AJ l).take i=AJ (l.take i):=(ZJ ..).symm;have u:((AJ l).drop i).take (l.length-i)=AJ (l.drop i):=by
     rw[Q9 (by rw[ZA,B5];omega)];exact(List.map_drop ..).symm
    have d:OR [.slice false [] [.slice nl0 [] (AJ (l.take i)),.slice false [] [.agg [.str n,.str p,.slice nl [] (As rs)]],.slice nl0 [] (AJ (l.drop i))]]=some (.slice false [] (AJ (l.take i++(n,p,nl,rs)::l.drop i))):=by
     have w:Fi [.slice nl0 [] (AJ (l.take i)),.slice false [] [.agg [.str n,.str p,.slice nl [] (As rs)]],.slice nl0 [] (AJ (l.drop i))]=some (AJ (l.take i++(n,p,nl,rs)::l.drop i)):=by
      simp[Fi,AJ,PP]
     simp only[OR,w];rw[if_pos];refine⟨U,?_,?_,?_⟩
     ·grind [B5]
     ·grind [B5]
     ·rw[Qt];intro x q;obtain⟨y,_,rfl⟩:=QZ.1 q;rfl
    unfold aM0;simp only[↓C2,Ho,simprocAttr,Ah,Av,Aw,Qi,Qz,Qo,QB,QE,Qn,Qp,and_false,Qv,Cg,FE,sX,Q_,QV,Zi,Ab k,o,Ab b,ha,Ab c,d,B5,va,a,z,u,Qj,QA];refine A1 ?_;simp only[↓C2,G9,simprocAttr,Ah,Av,Aw,Qw,Qh,Qk,Qm,Qg,and_self,Qi,QB,Qn,Qv,Bx,AW,QV,Zi,z,u,QA]
   ·cases h
  ·cases h
def cL{S:G8}{ns:Id}{a b l:List Rl}{nl na nb:Bool}{t ta tb:Id}{Q:Ex->St->Prop}{e:Bool}{o:D}{i:Int}(z:S 41=some (Ac F95))(c:S 307=some (Ac aFw))
  (la:a.length<=1000000) (lb:b.length<=1000000) (pb:Cr b) (w:GD a) (cb:GD b) (hb:l.length<=1000000) (sa:Cr l)
  (pa:∀v,e=false->v.s 4= .bool false->Q .ret v) (ga:∀v,e=true->v.s 0= .slice na ta (As a)->v.s 1= .slice nb tb (As b)->v.s 19=o->v.s 20= .int .i64 i->Q (.exit 2) v):
  ∀(f j:Nat) v g,l.length=j+f->EM a b l f j=e->v.s 0= .slice na ta (As a)->v.s 1= .slice nb tb (As b)->v.s 19=o->v.s 20= .int .i64 i->v.s 23= .slice nl t (As l)->v.s 24= .int .i64 (l.length:Int)->v.s 25= .int .i64 (j:Int)->Be S ns PC Q v g:=by
 intro f;induction f with
 |zero=>
  intro j v g hf he h0 u m n x d ja;refine Af PC.eq_1 ?_;have:¬((j:Int)<l.length):=O
  simp only[↓C2,Hc,Hl,reduceIte,Qe,d,ja,this];exact ga _ he.symm h0 u m n
 |succ f ih=>
  intro j v g hf he h0 u m n x d ja;refine Af PC.eq_1 ?_;unfold EM at he;have hj:j<l.length:=O
  have da:((j:Int)<l.length):=O
  have oa:=nJ (j:=j);have hw:=wJ (j:=j) O;have ka:(As l)[j]?=some (.agg [.str (CS l j).1,.int .u8 (CS l j).2]):=O7 hj;have hq:=bM sa hj;unfold jI at he;generalize CS l j=r at ka hq he;obtain⟨q,k⟩:=r;simp only at ka hq he;have p:=nA (nl:=na) (t:=[]) (s:=q) la;have y:=qX (s:=q) w;have h:=aJB (nl:=nb) (t:=[]) (s:=q) lb cb pb hq y.1 y.2;unfold Nl at h;generalize dI (Ds b q).toNat (Ds a q).toNat=hh at he h;obtain⟨ma,ia,ea⟩:=v;simp only at h0 u m n x d ja;cases hh with
  |true=>
   rw[if_pos rfl]at he;simp only[↓C2,Ho,reduceIte,Qd,Qe,h0,u,x,d,ja,da,oa,Qj,ka,Ab z,p,Ab c,h,Ah,Av,Aw,QL,QY,Qi,Qu,Qz,Qo];refine A1 ?_;simp only[↓C2,Hc,H_,reduceIte,Qd,Qe,ja,hw];exact ih (j+1) _ _ O he h0 u m n x d rfl
  |false=>
   rw[if_neg U]at he;simp only[↓C2,Ho,reduceIte,Qd,Qe,h0,u,x,d,ja,da,oa,Qj,ka,Ab z,p,Ab c,h,Ah,Av,Aw,QL,QY,Qi,Qu,Qz,Qo];refine A1 ?_;simp only[↓C2,Hc,H_,reduceIte,Qd,Qe];exact pa _ he.symm rfl
def aSU:Kq aJT 254:=by
 obtain⟨S,hS,hl⟩:=Bv (Aa bV (Aa aOA (Aa aSz Ad)));have da:=hl 168 _ rfl;have z:=hl 41 _ rfl;have c:=hl 307 _ rfl;clear hl;refine AN (S:=S) hS (Aj func254:Fn Qf 254 40 aM1 [.t 4]) (λds r h=>?_) (λds r h=>?_)
 ·grind [gW]
 ·obtain⟨na,ta,a,nb,tb,b,rfl,la,lb,pa,pb,w,cb,rfl⟩:=gW h;have ea:=V3 (nl:=na) (t:=[]) la pa;have eb:=V3 (nl:=nb) (t:=[]) lb pb;have i:=NE a;have f:=NE b;have j:=UG a;have k:=UG b;unfold aM1 GY;generalize Cw a=xa at *;generalize Cw b=xb at *;by_cases d:xa=0
  ·by_cases g:xb=0
   ·subst d g;have z2:((2:Nat):Int)=2:=rfl;have s:IntKind.i64.wrap ((0:Int)+1)=1:=Hy O O;have w2:IntKind.i64.wrap ((1:Int)+1)=2:=Hy O O;rw[Zs];have x:a.all (jI a b)=EM a b a a.length 0:=by rw[I0 _ _ _ _ _ O];rfl
    have o:b.all (jI a b)=EM a b b b.length 0:=by rw[I0 _ _ _ _ _ O];rfl
    rw[x,o];simp only[↓C2,G9,reduceIte,Qd,Qe,Ab da,ea,eb,Cg,FE,QY,Qh,Qk,Qm,and_self,Qu,Qz,QB,QE];refine Af PB.eq_1 ?_;simp only[↓C2,Hc,Hl,reduceIte,Qd,Qe,A2,z2,ZO,Int.toNat_zero,ZC,Qg,and_self];refine cL (a:=a) (b:=b) (l:=a) (e:=EM a b a a.length 0) z c la lb pb w cb la pa (λv u y=>?_) (λv p q u m n=>?_) a.length 0 _ _ O rfl rfl rfl rfl rfl rfl rfl rfl
    ·simp only[↓C2,G9,u,y,Za,ZF]
    ·simp only[↓C2,G9,reduceIte,Qd,Qe,n,p,s];refine Af PB.eq_1 ?_;simp only[↓C2,Hc,Hl,reduceIte,Qd,Qe,m,n,A2,z2,ZO,Int.toNat_one,Int.reduceLE,Qg,QM,and_self];refine cL (a:=a) (b:=b) (l:=b) (e:=EM a b b b.length 0) z c la lb pb w cb lb pb (λv u y=>?_) (λv ga q u m n=>?_) b.length 0 _ _ O rfl q u m rfl rfl rfl rfl
     ·simp only[↓C2,G9,u,y,p,ZF]
     ·simp only[↓C2,G9,reduceIte,Qd,Qe,n,p,ga,w2];refine Af PB.eq_1 ?_;simp only[↓C2,G9,reduceIte,Qd,Qe,n,p,ga,Zn]
   ·simp only[↓C2,G9,reduceIte,Qd,Qe,Ab da,ea,eb,g,d]
    try simp
  ·simp only[↓C2,G9,reduceIte,Qd,Qe,Ab da,ea,d]
   try simp
def Ig(l:List Tk)(k:Tk):Option (List Tk)×Int:=
 if LV k.1 k.2.1 k.2.2.2≠0 then(none,LV k.1 k.2.1 k.2.2.2)else if k.2.1=[]then(none,2)else if A4 l k.1=true then(none,20)else if A4 l k.2.1=false then(none,6)
 else if GY k.2.2.2 (Bu l (LB l k.2.1)).2.2.2=false then(none,13)else(some (EX l k),0)
def WI(nl:Bool)(l:List Tk)(o:Option (List Tk)):D:=match o with
 |none=> .agg [.slice nl [] (AJ l)]
 |some z=> .agg [.slice false [] (AJ z)]
def MC(l:List Rl):Prop:=l.length<=1000000∧Cr l∧GD l
open Classical in
def F50:List D->Option D
 |[.agg [.slice nl0 _ xs],.agg [.str n,.str p,.slice nl _ ys]]=>if(Fz xs∧xs.length<=90000∧∀k∈Dv xs,MC k.2.2.2)∧Ot nl ys∧MC (Bo ys)∧n.length<=1000000∧p.length<=1000000
   then some (.tup [WI nl0 (Dv xs) (Ig (Dv xs) (n,p,nl,Bo ys)).1,.int .i64 (Ig (Dv xs) (n,p,nl,Bo ys)).2])else none
 |_=>none
def aWz:Kq F50 196:=by
 obtain⟨S,hS,hl⟩:=Bv (Aa aKm (Aa aAV (Aa aSU (Aa aST Ad))));have a:=hl 135 _ rfl;have ea:=hl 40 _ rfl;have f:=hl 254 _ rfl;have q:=hl 195 _ rfl;clear hl;refine AN (S:=S) hS (Aj func196:Fn Qf 196 54 aUQ [.cell (some 1) 4,.t 5]) (λds r h=>?_) (λds r h=>?_)
 ·unfold F50 at h;split at h
  ·simp
  ·cases h
 ·unfold F50 at h;split at h
  ·rename_i nl0 t0 xs n p nl t ys;split at h
   ·rename_i hc;obtain⟨⟨hc,h9,hk⟩,x,g,hn,hp⟩:=hc;obtain⟨l,rfl,hl,e⟩:=EQ hc;obtain⟨rs,rfl,ia,m,e2⟩:=Lo x;rw[e,e2]at h;rw[e]at hk;rw[e2]at g;rw[B5]at h9;simp only[Qb]at h;subst h;have y:=We (n:=n) (p:=p) (nl:=nl) (t:=[]) ia g.2.1 hn hp;have b:=Oi (nl:=nl0) (t:=[]) (s:=n) hl;have c:=Oi (nl:=nl0) (t:=[]) (s:=p) hl;have o:=aJU (nl0:=nl0) (t0:=[]) (n:=n) (p:=p) (t:=[]) h9 ia m;unfold aUQ Ig;simp only;generalize LV n p rs=e at *;by_cases he:e=0
    ·subst he;by_cases d:p=[]
     ·subst d;simp only[↓C2,Ho,simprocAttr,Ah,Av,Aw,Qi,Qo,Qn,Qp,and_false,Qv,AW,Bd,Ab a,y,ne_eq];simp[WI];rfl
     ·cases h1:A4 l n with
      |true=>
       rw[h1]at b;simp only[↓C2,Ho,simprocAttr,Ah,Av,Aw,Qi,Qo,Qn,Qp,and_false,Qv,AW,Bd,Ab a,y,Ab ea,b,ne_eq,d];simp[WI];rfl
      |false=>
       rw[h1]at b;cases h2:A4 l p with
       |false=>
        rw[h2]at c;simp only[↓C2,Ho,simprocAttr,Ah,Av,Aw,Qi,Qo,Qn,Qp,and_false,Qv,AW,Bd,Ab a,y,Ab ea,b,c,ne_eq,d];simp[WI];rfl
       |true=>
        have hi:LB l p<l.length:=by
         grind [A4]
        rw[h2]at c;generalize LB l p=i at c hi;have va:(0:Int)<=(i:Int):=O
        have ka:=Lj (l:=l) (j:=i) hi;have hm:Bu l i∈l:=by simp[Bu,Qc hi]
        have w:=hk _ hm;generalize Bu l i=k at ka w;obtain⟨n2,p2,z,u⟩:=k;replace ka:(AJ l)[i]?=some (.agg [.str n2,.str p2,.slice z [] (As u)]):=ka;have v:=aJS (na:=nl) (nb:=z) (ta:=[]) (tb:=[]) ia w.1 g.2.1 w.2.1 g.2.2 w.2.2;simp only at v;cases h3:GY rs u with
        |false=>
         rw[h3]at v;simp only[↓C2,Ho,simprocAttr,Ah,Av,Aw,Qi,QB,QE,QP,Qn,Qp,and_false,Qv,Ab a,y,Ab ea,b,c,ne_eq,d,va,ka,Qj,Ab f,v];refine A1 ?_;simp only[↓C2,G9,simprocAttr,Ah,Av,Aw,Qx,Qw,Qh,Qk,Qm,Qg,and_self,Qi,Qo,Qn,Qp,Qv,AW,Bd,d];simp[WI];rfl
        |true=>
         rw[h3]at v;simp only[↓C2,Ho,simprocAttr,Ah,Av,Aw,Qi,QB,QE,QP,Qn,Qp,and_false,Qv,Ab a,y,Ab ea,b,c,ne_eq,d,va,ka,Qj,Ab f,v];refine A1 ?_;simp only[↓C2,Ho,simprocAttr,Ah,Av,Aw,Qi,Qo,Qn,Qp,and_false,Qv,AW,Bd,Ab q,o,d];simp[WI];rfl
    ·simp only[↓C2,Ho,simprocAttr,Ah,Av,Aw,Qi,Qo,Qn,Qp,and_false,Qv,AW,Bd,Ab a,y,ne_eq,he];simp[WI];rfl
   ·cases h
  ·cases h
def aHk{S:G8}{l:List Tk}{nl0:Bool}{t0:Id}{Q:Ex->St->Prop}(o:l.length<=1000000)
  (e:∀v nl t,nl=decide (l.length=0)->v.s 3= .slice nl t (l.map λk=> .str k.1)->Q (.exit 0) v):
  ∀(f j:Nat) nl t v g,l.length=j+f->nl=decide (j=0)->Gw v.m v.c 9 nl t->v.s 3= .slice nl t ((l.take j).map λk=> .str k.1)->v.s 7= .slice nl0 t0 (AJ l)->v.s 8= .int .i64 (l.length:Int)->v.s 9= .int .i64 (j:Int)->Be S [] Pz Q v g:=by
 intro f;induction f with
 |zero=>
  intro j nl t v g a r hG i h7 h8 h9;refine Af Pz.eq_1 ?_;have:¬((j:Int)<l.length):=O
  simp only[↓C2,Hc,Hl,reduceIte,Qe,h8,h9,this];refine e _ nl t (by rw[r,show j=l.length by omega]) ?_;rw[show j=l.length by omega,Zp]at i;exact i
 |succ f ih=>
  intro j nl t v g a r hG i h7 h8 h9;refine Af Pz.eq_1 ?_;have q:j<l.length:=O
  have u:((j:Int)<l.length):=O
  have oa:=nJ (j:=j);have hw:=wJ (j:=j) O;have x:=Lj (l:=l) (j:=j) q;have z:(l.take (j+1)).map (λk:Tk=>D.str k.1)=(l.take j).map (λk:Tk=>D.str k.1)++[.str (Bu l j).1]:=by
   rw[Zb q,List.map_append];simp[Bu,Qc q]
  have va:((l.take j).map (λk:Tk=>D.str k.1)).length=j:=Xb
  have na:nl=true->(l.take j).map (λk:Tk=>D.str k.1)=[]:=by
   simp_all
  generalize (l.take j).map (λk:Tk=>D.str k.1)=y at i z va na;generalize Bu l j=k at x z;obtain⟨n,p,w,rs⟩:=k;replace x:(AJ l)[j]?=some (.agg [.str n,.str p,.slice w [] (As rs)]):=x;obtain⟨ma,ia,b⟩:=v;simp only at i h7 h8 h9 hG z;simp only[↓C2,Ho,simprocAttr,i,h7,h8,h9,u,oa,Qj,x,Ah,Av,Aw,Qi,Qu,Qz,Qo,and_false];refine Au.intro ⟨O,rfl,?_⟩ ?_
  ·first
    |exact(hG.put.put.more O).grow O
    |exact(Gw.put (Gw.put hG O) O).grow O
  rw[B8 na,←z];simp only[↓C2,G9,simprocAttr,h9,hw];refine ih (j+1) false _ _ _ O U ?_ rfl h7 h8 rfl;exact Gw.new Xa
open Classical in
def nC:List D->Option D
 |[.agg [.slice _ _ xs]]=>if Fz xs then some (.slice (decide ((Dv xs).length=0)) [] ((Dv xs).map λk=> .str k.1))else none
 |_=>none
def aKl:Kq nC 19:=by
 refine AN (S:=λ_=>none) A8 (Aj func19:Fn Qf 19 20 aMT [.t 2]) (λds r h=>?_) (λds r h=>?_)
 ·unfold nC at h;split at h
  ·simp
  ·cases h
 ·unfold nC at h;split at h
  ·rename_i nl t xs;split at h
   ·rename_i z;obtain⟨l,rfl,hl,e⟩:=EQ z;rw[e]at h;simp only[Qb]at h;subst h;unfold aMT;simp only[↓C2,Hc,H_,simprocAttr,B5,Ah,Qx,Qw,Qh,Qk,Qm,Qg,and_self];refine aHk (l:=l) (nl0:=nl) (t0:=t) hl (λv nl' b u y=>?_) l.length 0 true [] _ _ O U (.inl rfl) rfl rfl rfl rfl;simp only[↓C2,G9,simprocAttr,y];rw[u]
    first|done|rfl|exact⟨rfl,rfl⟩
   ·cases h
  ·cases h
def aMB:=y0 f265 [] []
def aLm:=y0 f241 [] []
def aLR:=y0 f170 [] []
def yW:List D->Option D
 |[.int .i64 n,.int .i64 lo,.int .i64 hi]=>some (.bool (decide (lo<=n∧n<=hi)))
 |_=>none
def aKd:Kq yW 170:=by
 refine AN (S:=λ_=>none) A8 (Aj func170:Fn Qf 170 15 aLR [.t 6]) (λds r h=>?_) (λds r h=>?_)
 ·unfold yW at h;split at h
  ·simp
  ·cases h
 ·unfold yW at h;split at h
  ·rename_i n lo hi;simp only[Qb]at h;subst h;unfold aLR;simp only[↓C2,Hc,simprocAttr]
   repeat' (first|(refine aF (λh=>?_) (λh=>?_)<;>try (exfalso;omega))|(simp only[↓C2,G9,simprocAttr,h,and_self,false_and]))
   all_goals (simp_all<;>omega)
  ·cases h
def yP:D->D->Option D
 | .junk,.int .i64 x=>some (.bool (!decide (1<=x∧x<=999)))
 |_,_=>none
def aPX:(I1 yP).ok Qf 241:=by
 obtain⟨S,w,hl⟩:=Bv (Aa aKd Ad);have f:=hl 170 _ rfl;clear hl;refine N4 (S:=S) w (Aj func241:Fn Qf 241 6 aLm [.t 2]) (λx caps m fr c d s b j hl=>⟨O,?_⟩);unfold yP at b;split at b
 ·rename_i n;simp only[Qb]at b;subst b;have a:∀n lo hi,yW [.int .i64 n,.int .i64 lo,.int .i64 hi]=some (.bool (decide (lo<=n∧n<=hi))):=λ_ _ _=>rfl
  unfold aLm;simp only[↓C2,G9,simprocAttr,Ab f,a]
  try exact λi o y h=>h
 ·cases b
def aPA:(FY 241 none yP).ok Qf 293:=NS O aUw rfl aPX
def aU7:(iA 241 none yP).ok Qf 240:=qQ O aUx aPA
def pA(nl:Bool)(xs:List D):Prop:=xs=AB (Dx xs)∧xs.length<=1000000∧(nl=true->xs=[])
def aA7{nl:Bool}{l:List Mt}(hl:l.length<=1000000)(g:nl=true->l=[]):pA nl (AB l):=⟨by rw[BN],by rw[AY];exact hl,λh=>by rw[g h];rfl⟩
def uN{nl:Bool}{xs:List D}(h:pA nl xs):∃l:List Mt,xs=AB l∧l.length<=1000000∧(nl=true->l=[])∧Dx xs=l:=by
 refine⟨Dx xs,h.1,?_,λg=>?_,rfl⟩
 ·have:=h.2.1;rw[h.1,AY]at this;exact this
 ·rw[h.2.2 g];rfl
def vL(bs:List Bool):Bc bs<bs.length:=by
 unfold Bc;cases h:bs.findIdx? id with
 |none=>simp only;omega
 |some k=>
  rw[QT]at h;obtain⟨s,_⟩:=h;simp only;omega
def RE(l:List Mt)(p:Bs):BC l p<l.length:=by
 have:=vL (l.map λm=>decide (m.1=p));rw[Qy]at this;exact this
open Classical in
def aFB:List D->Option D
 |[.agg [.slice _ _ xs],.str p]=>if xs=AB (Dx xs)∧xs.length<=1000000 then some (.tup (if BC (Dx xs) p<0 then [ML ([],0,false),.int .i64 14]else [ML (Cd (Dx xs) (BC (Dx xs) p).toNat),.int .i64 0]))else none
 |_=>none
def aSM:Kq aFB 265:=by
 obtain⟨S,w,hl⟩:=Bv (Aa aAZ Ad);have c:=hl 187 _ rfl;clear hl;refine AN (S:=S) w (Aj func265:Fn Qf 265 18 aMB [.cell (some 3) 4,.t 5]) (λds r h=>?_) (λds r h=>?_)
 ·unfold aFB at h;split at h
  ·simp
  ·cases h
 ·unfold aFB at h;split at h
  ·rename_i nl t xs p;split at h
   ·rename_i n;obtain⟨q,hl⟩:=n;simp only[Qb]at h;subst h;generalize Dx xs=l at q;subst q;rw[AY]at hl;have z:=PJ (nl:=nl) (t:=[]) (p:=p) hl;have u:=RE l p;unfold aMB;generalize BC l p=i at z u;by_cases hi:i<0
    ·simp only[↓C2,Ho,simprocAttr,Ah,Av,Aw,Qi,Qo,Qn,Qp,QQ,and_false,AW,Bd,Cg,Ab c,z,hi];simp[ML];rfl
    ·obtain⟨j,rfl⟩:=QX (show 0<=i by omega);have b:j<l.length:=by omega
     have s:=nJ (j:=j);have x:(AB l)[j]?=some (.agg [.str (Cd l j).1,.int .i64 (Cd l j).2.1,.bool (Cd l j).2.2]):=Pb b;simp only[↓C2,Ho,simprocAttr,Ah,Av,Aw,Qi,Qu,Qz,Qo,Qn,Qp,QQ,and_false,AW,Bd,Ab c,z,hi,s,x,Qj];simp[ML];rfl
   ·cases h
  ·cases h
def dS{bs:List Bool}{j:Nat}(h:bs[j]?=some true)(p:∀i,i<j->bs[i]?=some false):Bc bs=j:=by
 have q:j<bs.length:=(Qq.1 h).1;have:bs.findIdx? id=some j:=by
  rw[QT];refine⟨q,by rw[Qc q]at h;simpa using h,λi hi=>?_⟩;have:=p i hi;rw[Qc O]at this;simp[Qb]at this;simp[this]
 simp only[Bc,this]
def dT{bs:List Bool}(p:∀i,i<bs.length->bs[i]?=some false):Bc bs=-1:=by
 have:bs.findIdx? id=none:=Zl.2 λb y=>by
  obtain⟨i,hi,rfl⟩:=QW y;have:=p i hi;rw[Qc hi]at this;simpa using QG this
 simp only[Bc,this]
def A0(l:List Mt)(p:Bs):Int:=Bc (l.map λm=>Bj p m.1)
def aM6:=y0 f191 [] []
def qK:=y1 f251 2 [] []
def aMl:=y0 f251 [] [(2,qK)]
def Pp:=y1 f296 4 [] []
def Po:=y1 f296 1 [] [(4,Pp)]
def aLF:=y0 f296 [] [(1,Po)]
def aMk:=y0 f252 [] []
def aLE:=y0 f305 [] []
def aUS:=y0 f129 [(6,[(3,1)])] []
def m0t:Mt:=([],0,false)
def jU(a b:Mt):Bool:=decide (CV a.1 b.1<0)
def aXI(i:Id)(m:Ha)(xs:List Mt):Prop:=∀j,j<xs.length->m i (j*3)=some (.str (xs.getD j m0t).1)∧m i (j*3+1)=some (.int .i64 (xs.getD j m0t).2.1)∧m i (j*3+2)=some (.bool (xs.getD j m0t).2.2)
structure Oe (i:Id) (m0 m:Ha) (xs:List Mt):Prop where
 row:aXI i m xs
 out:∀i' o,(i'≠i∨xs.length*3<=o)->m i' o=m0 i' o
def Oe.put{i:Id}{m0 m:Ha}{xs:List Mt}(h:Oe i m0 m xs){j:Nat}(hj:j<xs.length){p:Bs}{q:Int}{b:Bool}:Oe i m0 (m.put i (j*3) [.str p,.int .i64 q,.bool b]) (xs.set j (p,q,b)):=by
 refine⟨λk y=>?_,λf o ho=>?_⟩
 ·rw[Zt]at y;by_cases e:k=j
  ·grind [m0t,Ah]
  ·have a:(xs.set j (p,q,b)).getD k m0t=xs.getD k m0t:=by simp[Zy,List.getElem?_set_ne (Ne.symm e)]
   rw[a];have g:∀d,d<3->¬(i=i∧j*3<=k*3+d∧k*3+d<j*3+[D.str p,.int .i64 q,.bool b].length):=by
    intro d s;simp;omega
   obtain⟨a1,x,r⟩:=h.row k y;exact⟨by rw[Ah,if_neg (by have:=g 0 O;rwa [Q8]at this)];exact a1,by rw[Ah,if_neg (g 1 O)];exact x,by rw[Ah,if_neg (g 2 O)];exact r⟩
 ·rw[Zt]at ho;rw[Ah,if_neg (by rintro⟨e,h1,h2⟩;simp at h2;rcases ho with ho|ho;exact ho e;omega)];exact h.out f o ho
def Oe.swp{i:Id}{m0 m:Ha}{xs:List Mt}(h:Oe i m0 m xs){j:Nat}(b:j+1<xs.length){x y:Mt}(q:xs.getD j m0t=x)(o:xs.getD (j+1) m0t=y):
  Oe i m0 ((m.put i ((j+1)*3) [.str x.1,.int .i64 x.2.1,.bool x.2.2]).put i (j*3) [.str y.1,.int .i64 y.2.1,.bool y.2.2]) (Go.Vd.swp m0t xs j):=by
 unfold Go.Vd.swp;rw[q,o];exact(h.put (j:=j+1) b).put (by rw[Zt];omega)
def h108(a b:Mt):zD [ML a,ML b]=some (.int .i64 (CV a.1 b.1)):=rfl
def aBn{S:G8}{fr i:Id}{n:Nat}{m0:Ha}{i8:Nat}{Q:Ex->St->Prop}(a:S 192=some (Ac zD))(hn:n<=1000):
  ∀(j:Nat)(xs:List Mt) v g,xs.length=n->j<n->v.s 0= .row i n->v.s 1= .int .i64 0->v.s 2= .int .i64 (n:Int)->v.s 3= .fn 192 []->v.s 8= .int .i64 (i8:Int)->v.s 9= .int .i64 (j:Int)->Oe i m0 v.m xs->
   (∀r,r.s 0= .row i n->r.s 1= .int .i64 0->r.s 2= .int .i64 (n:Int)->r.s 3= .fn 192 []->r.s 8= .int .i64 (i8:Int)->Oe i m0 r.m (Rq jU m0t xs j)->Q (.exit 2) r)->Be S fr Pp Q v g:=by
 intro j;induction j with
 |zero=>
  intro xs v g hl p h0 u f h3 h8 h9 I z;refine Af Pp.eq_1 ?_;have e:¬((0:Int)<((0:Nat):Int)):=O
  simp only[↓C2,Hc,Hl,simprocAttr,u,h9,e];refine A1 ?_;simp only[↓C2,Hc,reduceIte,Qd];exact z _ h0 u f h3 h8 I
 |succ j ih=>
  intro xs v g hl p h0 u f h3 h8 h9 I z;refine Af Pp.eq_1 ?_;have e:((0:Int)<((j+1:Nat):Int)):=O
  have w1:IntKind.i64.wrap (((j+1:Nat):Int)-1)=(j:Int):=Xh
  have oa:=nJ (j:=j);have d:(0:Int)<=((j+1:Nat):Int):=O
  have za:((j:Int)<(n:Int)):=O
  have c:(((j+1:Nat):Int)<(n:Int)):=O
  have bn:(3=1)=False:=U
  obtain⟨a0,a1,a2⟩:=I.row j O;obtain⟨b0,b1,b2⟩:=I.row (j+1) O;obtain⟨x,q⟩:∃x,xs.getD j m0t=x:=⟨_,rfl⟩;obtain⟨y,hy⟩:∃y,xs.getD (j+1) m0t=y:=⟨_,rfl⟩;have la:=z;unfold Rq at la;have w:jU (xs.getD (j+1) m0t) (xs.getD j m0t)=decide (CV (xs.getD (j+1) m0t).1 (xs.getD j m0t).1<0):=rfl;rw[w]at la;rw[q]at a0 a1 a2 la;rw[hy]at b0 b1 b2 la;clear w;have t:=h108 y x;simp only[ML]at t;obtain⟨ma,o,k⟩:=v;simp only at h0 u f h3 h8 h9 a0 a1 a2 b0 b1 b2 I;by_cases w:CV y.1 x.1<0
  ·rw[if_pos XJ]at la;have q1:((j+1)*3<=j*3)=False:=eq_false O;have q2:((j+1)*3<=j*3+1)=False:=eq_false O;have q3:((j+1)*3<=j*3+1+1)=False:=eq_false O;have b:decide (CV y.1 x.1<0)=true:=by simpa using w
   simp only[↓C2,G9,simprocAttr,h0,u,h3,h9,e,oa,d,za,c,w1,bn,Qj,a0,a1,a2,b0,b1,b2,w,Ab a,t,Av,Aw,and_self,Qi];refine A1 ?_;simp only[↓C2,Hc,H_,simprocAttr,h0,h9,oa,d,za,c,w1,bn,Qj,a0,a1,a2,b0,b1,b2,q1,q2,q3,false_and,and_false,Ah,Av,Aw,Qh,Qk,Qm,and_self,Qi,Qo];refine A1 ?_;simp only[↓C2,Hc,simprocAttr,h9,w1,bn];refine ih _ _ _ (by rw[nS];exact hl) O h0 u f h3 h8 rfl ?_ la;exact I.swp O q hy
  ·rw[if_neg XJ]at la;simp only[↓C2,G9,simprocAttr,h0,u,h3,h9,e,oa,d,za,c,w1,bn,Qj,a0,a1,a2,b0,b1,b2,w,Ab a,t,Av,Aw,and_self,Qi];refine A1 ?_;simp only[↓C2,Hc,reduceIte,Qd,bn];exact la _ h0 u f h3 h8 I
end Go.Vd
end
