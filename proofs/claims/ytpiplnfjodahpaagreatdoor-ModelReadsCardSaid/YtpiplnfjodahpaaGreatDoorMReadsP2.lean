/- A part of the proof; nothing in it is assumed. -/
import Derived.Test.YtpiplnfjodahpaaGreatDoorMReadsP1
import Derived.Test.YtpiplnfjodahpaaGreatDoorProg
import Derived.Shelf.Strings.Split
import Init
import Derived.Shelf.Strings.OnBuilder
import Derived.Lib.AppendZeros

set_option linter.unusedSimpArgs false
set_option linter.unusedVariables false
set_option linter.defProp false
set_option maxHeartbeats 4000000
set_option maxRecDepth 100000
open And renaming intro→Qa
open Option.some renaming injEq→Qb,inj→QE
open List renaming getElem?_eq_getElem→Qc,getElem?_cons_succ→Qd,length_cons→Qm,getElem?_eq_some_iff→Qo,mem_of_getElem?→Qp,length_nil→Qq,all_eq_true→Qs,take_succ_cons→Qt,length_map→Qw,getElem?_cons_zero→Qx,take_zero→Qy,drop_zero→QA,map_congr_left→QC,drop_succ_cons→QD,suffix_cons→QH,map_map→QI,getElem?_take_of_lt→QJ,getElem?_map→QL,head?_cons→QN,map_nil→QQ,findIdx?_eq_some_iff_getElem→QS,getElem?_append_left→QT,nil_append→QU,getElem_of_mem→QW,mem_map→Q_,map_cons→Q0,mem_cons_of_mem→Q1,getElem?_append_right→Q2,drop_eq_getElem_cons→Q4,mem_cons_self→Q5,length_append→Q6,replicate→Q7,take_of_length_le→Q9,take_succ_eq_append_getElem→Zb,append_assoc→Zc,all_nil→Zd,cons_append→Ze,getElem_mem→Zf,count_eq_zero_of_not_mem→Zg,length_take_le→Zh,findIdx?_eq_none_iff→Zl,mem_cons→Zm,length_eq_zero_iff→Zo,take_length→Zp,suffix_refl→Zq,all_append→Zs,length_set→Zt,getElem?_take→Zw,getD→Zy,length_drop→ZA,map_id→ZB,drop_drop→ZE,all_cons→ZI,map_take→ZJ,getLast?→ZK,any_map→ZN,map→ZP,length→ZQ
open Nat renaming reduceEqDiff→Qe,reduceAdd→Qf,zero_ne_one→Qn,succ_ne_zero→Qu,zero_add→Qv,le_refl→Qz,le_of_ble_eq_true→QG,reduceLT→QK,one_ne_zero→QO,le_trans→QP,zero_le→QV,reduceLeDiff→QY,sub_zero→QZ,add_zero→Q8,lt_of_lt_of_le→Zj,land→Zr,eq_zero_or_pos→Zu,add_sub_cancel→Zv,le_max_right→Zz
open Go.Proofs.Tryz renaming prog→Qg
open Option renaming bind_some→Qh,map_eq_some_iff→Qj,isSome_some→Ql,bind_eq_some_iff→QB,map_some→QM
open Int renaming toNat_natCast→Qi,eq_ofNat_of_zero_le→QX,cast_ofNat_Int→Zk,lt_irrefl→Zn,le_refl→ZC,reduceLT→ZO
open List.cons renaming injEq→Qk
open Prod.mk renaming injEq→Qr
open Array renaming getElem?_eq_some_iff→QF,getD_eq_getD_getElem?→Zi,size_append→Zx
open Bool renaming false_eq_true→QR,and_eq_true→Q3,false_and→Za,not_false→ZD,and_false→ZF,true_and→ZG,not_true→ZH,false_or→ZL,or_false→ZM
open Prod renaming ext→ZR
open Go.Proofs.Tryz
noncomputable section
namespace Go.Vd
open Go.RowKit
section
variable{S:GZ}{s:Nat->D}{m:G6}{fr:Id}{K:D->Ha->Prop}
def aXx{x:G9}:AB S s m fr (.mv x) K=Hm (some (x.ev s)) (λd=>K d []) .mk:=by simp[AB,Ax,Hm]
def aBa:D->D->D->(K:D->Ha->Prop)->Tag K->Prop
 | .bool t,a,b,K,_=>OP (t=true) (K a []) (K b []) .mk
 |_,_,_,_,_=>False
def jO{t:Bool}{a b:D}{g:Tag K}:aBa (.bool t) a b K g=OP (t=true) (K a []) (K b []) .mk:=rfl
def aOx{c a b:G9}:AB S s m fr (.pick c a b) K=aBa (c.ev s) (a.ev s) (b.ev s) K .mk:=by
 simp only[AB,Ax];unfold aBa;cases c.ev s<;>simp only[AR];rename_i t;cases t<;>simp[Hm,OP]
def aGv{zs:List D}:AB S s m fr (.alloc zs) K=Hm (some fr) (λfr=>K (.ptr fr 0) [(fr,0,zs)]) .mk:=by simp[AB,Ax,Hm]
def aSt{x:G9}:AB S s m fr (.box x) K=Hm (some fr) (λfr=>Hm (some (x.ev s)) (λd=>As (d.data=true) (K (.ptr fr 0) [(fr,0,d.cells)]) .mk) .mk) .mk:=by
 simp only[AB,Ax];rw[EJ,A3,A3,A3]
def aGu{zs:List D}{z:List (Nat×Nat×G9)}:AB S s m fr (.build zs z) K=Hm (Cn zs (z.map λp=>(p.1,p.2.1,p.2.2.ev s))) (λcs=>K (.agg cs) []) .mk:=by
 simp_all [AB,Ax,CK]
def zY{e sz:Nat}{z:List G9}:AB S s m fr (.bslice e sz z) K=Hm (some fr) (λfr=>Hm (some (z.map λp=>p.ev s)) (λds=>As ((ds.all λd=>d.data&&d.cells.length==sz&&d.un.calm)=true) (K (.slice false fr (ds.map D.un)) [(fr,0,[.tok (e+1)])]) .mk) .mk) .mk:=by
 simp only[AB,Ax];rw[EJ,A3,A3,A3,List.all_map,QI];rfl
def Rk:Option Nat->D->(m:G6)->(K:D->Ha->Prop)->Tag (m,K)->Prop
 |none,.ptr i o,m,K,_=>Hm (m i o) (λd=>K d []) .mk
 |some n,.ptr i o,m,K,_=>Hm (Ag m i o n) (λds=>K (.agg ds) []) .mk
 |none,.eptr ds,m,K,_=>Hm ds.head? (λd=>K d []) .mk
 |some n,.eptr ds,m,K,_=>As (n<=ds.length) (K (.agg (ds.take n)) []) .mk
 |_,_,_,_,_=>False
def vE{i:Id}{o:Nat}{g:Tag (m,K)}:Rk none (.ptr i o) m K g=Hm (m i o) (λd=>K d []) .mk:=rfl
def kI{i:Id}{o n:Nat}{g:Tag (m,K)}:Rk (some n) (.ptr i o) m K g=Hm (Ag m i o n) (λds=>K (.agg ds) []) .mk:=rfl
def Rj{ds:List D}{g:Tag (m,K)}:Rk none (.eptr ds) m K g=Hm ds.head? (λd=>K d []) .mk:=rfl
def On{ds:List D}{n:Nat}{g:Tag (m,K)}:Rk (some n) (.eptr ds) m K g=As (n<=ds.length) (K (.agg (ds.take n)) []) .mk:=rfl
def aOC{k:Option Nat}{x:G9}:AB S s m fr (.load k x) K=Rk k (x.ev s) m K .mk:=by
 simp only[AB,Ax];unfold Rk;cases x.ev s<;>cases k<;>simp only[AR,CK,FN]
def jB(n:Nat):D->D->(m:G6)->(K:D->Ha->Prop)->Tag (m,K)->Prop
 | .ptr i o,d,m,K,_=>As (d.data=true∧d.cells.length=n∧(Ag m i o n).isSome=true) (K .junk [(i,o,d.cells)]) .mk
 |_,_,_,_,_=>False
def jA{n:Nat}{i:Id}{o:Nat}{d:D}{g:Tag (m,K)}:jB n (.ptr i o) d m K g=As (d.data=true∧d.cells.length=n∧(Ag m i o n).isSome=true) (K .junk [(i,o,d.cells)]) .mk:=rfl
def aGn{n:Nat}{x v:G9}:AB S s m fr (.store n x v) K=jB n (x.ev s) (v.ev s) m K .mk:=by
 simp only[AB,Ax];unfold jB;cases x.ev s<;>simp only[AR,FN]
def Lm:D->(K:D->Ha->Prop)->Tag K->Prop
 | .ptr i o,K,_=>K (.ptr i o) []
 | .eptr ds,K,_=>K (.eptr ds) []
 | .fn f cs,K,_=>K (.fn f cs) []
 |_,_,_=>False
def cG{i:Id}{o:Nat}{g:Tag K}:Lm (.ptr i o) K g=K (.ptr i o) []:=rfl
def Vc{ds:List D}{g:Tag K}:Lm (.eptr ds) K g=K (.eptr ds) []:=rfl
def jX{f:FuncId}{cs:List D}{g:Tag K}:Lm (.fn f cs) K g=K (.fn f cs) []:=rfl
def zX{x:G9}:AB S s m fr (.nilchk x) K=Lm (x.ev s) K .mk:=by
 simp only[AB,Ax];unfold Lm;cases x.ev s<;>simp[AR,A3]
def jM(fr:Id):D->(K:D->Ha->Prop)->Tag K->Prop
 | .str b,K,_=>K (.itp fr) [(fr,1,[.it b 0])]
 |_,_,_=>False
def jL{b:List UInt8}{g:Tag K}:jM fr (.str b) K g=K (.itp fr) [(fr,1,[.it b 0])]:=rfl
def aGo{x:G9}:AB S s m fr (.range x) K=jM fr (x.ev s) K .mk:=by
 simp only[AB,Ax];unfold jM;cases x.ev s<;>simp[AR,A3]
def pJ(i:Id):D->(K:D->Ha->Prop)->Tag K->Prop
 | .it b z,K,_=>OP (z<b.length) (K (.tup [.bool true,.int .i64 (z:Nat),.int .i32 (Utf8.decode ⟨b.toArray⟩ z).1]) [(i,1,[.it b (z+(Utf8.decode ⟨b.toArray⟩ z).2)])]) (K (.tup [.bool false]) []) .mk
 |_,_,_=>False
def aBw{i:Id}{b:List UInt8}{z:Nat}{g:Tag K}:pJ i (.it b z) K g=OP (z<b.length) (K (.tup [.bool true,.int .i64 (z:Nat),.int .i32 (Utf8.decode ⟨b.toArray⟩ z).1]) [(i,1,[.it b (z+(Utf8.decode ⟨b.toArray⟩ z).2)])]) (K (.tup [.bool false]) []) .mk:=rfl
def aBv:D->(m:G6)->(K:D->Ha->Prop)->Tag (m,K)->Prop
 | .itp i,m,K,_=>Hm (m i 1) (λx=>pJ i x K .mk) .mk
 |_,_,_,_=>False
def uX{i:Id}{g:Tag (m,K)}:aBv (.itp i) m K g=Hm (m i 1) (λx=>pJ i x K .mk) .mk:=rfl
def aOy{x:G9}:AB S s m fr (.next x) K=aBv (x.ev s) m K .mk:=by
 simp only[AB,Ax];unfold aBv;cases x.ev s<;>try (simp only[AR];done)
 rename_i i;simp only;cases m i 1 with
 |none=>simp only[AR]
 |some d=>
  simp only[A3];unfold pJ;cases d<;>simp only[AR];rename_i b z;rw[aJ2,A3,A3]
def aSu{op:BinOp}{x y:G9}:AB S s m fr (.bin op x y) K=Hm (AP op (x.ev s) (y.ev s)) (λd=>K d []) .mk:=X2
def aXw{op:UnOp}{x:G9}:AB S s m fr (.un op x) K=Hm (wG op (x.ev s)) (λd=>K d []) .mk:=X2
def aIG(ne:Bool):D->D->Option D
 | .bool a,.bool b=>some (.bool ((a==b)!=ne))
 |_,_=>none
def aQ8{a b:Bool}:aIG false (.bool a) (.bool b)=some (.bool (decide (a=b))):=by cases a<;>cases b<;>rfl
def aQ7{a b:Bool}:aIG true (.bool a) (.bool b)=some (.bool (decide (a≠b))):=by cases a<;>cases b<;>rfl
def aSv{ne:Bool}{x y:G9}:AB S s m fr (.beq ne x y) K=Hm (aIG ne (x.ev s) (y.ev s)) (λd=>K d []) .mk:=by
 simp only[AB,Ax];unfold aIG;cases x.ev s<;>cases y.ev s<;>simp[AR,A3]
def aO5(ne:Bool)(a:List (Nat×Nat)):D->D->Option D
 | .agg xs,.agg ys=>(Bi xs ys a).map λb=> .bool (b !=ne)
 |_,_=>none
def PO{ne:Bool}{a:List (Nat×Nat)}{xs ys:List D}:aO5 ne a (.agg xs) (.agg ys)=(Bi xs ys a).map λb=> .bool (b !=ne):=rfl
def aSn{ne:Bool}{a:List (Nat×Nat)}{x y:G9}:AB S s m fr (.seq ne a x y) K=Hm (aO5 ne a (x.ev s) (y.ev s)) (λd=>K d []) .mk:=by
 simp only[AB,Ax];unfold aO5;cases x.ev s<;>cases y.ev s<;>simp[AR,CK]
def aGp{ne:Bool}{k:Nat}{x y:G9}:AB S s m fr (.nileq ne k x y) K=Hm (IF k (x.ev s) (y.ev s)) (λb=>K (.bool (b !=ne)) []) .mk:=X2
def aDY(k:IntKind):D->Option D
 | .int _ n=>some (.int k (k.wrap n))
 |_=>none
def xG{k p:IntKind}{n:Int}:aDY k (.int p n)=some (.int k (k.wrap n)):=rfl
def aOI{k:IntKind}{x:G9}:AB S s m fr (.conv k x) K=Hm (aDY k (x.ev s)) (λd=>K d []) .mk:=by
 simp only[AB,Ax];unfold aDY;cases x.ev s<;>simp[AR,A3]
def aO7:D->Option D
 | .str b=>some (.str b)
 |_=>none
def aAB{b:List UInt8}:aO7 (.str b)=some (.str b):=rfl
def aSo{x:G9}:AB S s m fr (.s2s x) K=Hm (aO7 (x.ev s)) (λd=>K d []) .mk:=by
 simp only[AB,Ax];unfold aO7;cases x.ev s<;>simp[AR,A3]
def aO8:D->Option D
 | .str b=>some (.slice false [] (Az b))
 |_=>none
def aAC{b:List UInt8}:aO8 (.str b)=some (.slice false [] (Az b)):=rfl
def aSp{x:G9}:AB S s m fr (.s2b x) K=Hm (aO8 (x.ev s)) (λd=>K d []) .mk:=by
 simp only[AB,Ax];unfold aO8;cases x.ev s<;>simp[AR,A3]
def aIH:D->Option D
 | .slice _ _ xs=>(BI xs).map .str
 |_=>none
def mP{nl:Bool}{t:Id}{xs:List D}:aIH (.slice nl t xs)=(BI xs).map .str:=rfl
def aSw{x:G9}:AB S s m fr (.b2s x) K=Hm (aIH (x.ev s)) (λd=>K d []) .mk:=by
 simp only[AB,Ax];unfold aIH;cases x.ev s<;>simp[AR,CK]
def Fg(off:Nat):D->Option D
 | .ptr i o=>some (.ptr i (o+off))
 | .eptr ds=>if off<=ds.length then some (.eptr (ds.drop off))else none
 |_=>none
def lI{off:Nat}{i:Id}{o:Nat}:Fg off (.ptr i o)=some (.ptr i (o+off)):=rfl
def eO{off:Nat}{ds:List D}:Fg off (.eptr ds)=if off<=ds.length then some (.eptr (ds.drop off))else none:=rfl
def aGt{off:Nat}{x:G9}:AB S s m fr (.faddr off x) K=Hm (Fg off (x.ev s)) (λd=>K d []) .mk:=by
 simp only[AB,Ax];unfold Fg;cases x.ev s<;>simp only[AR,FN,A3]
def Vx(off:Nat):Option Nat->D->Option D
 |none,.agg cs=>cs[off]?
 |some n,.agg cs=>if off+n<=cs.length then some (.agg ((cs.drop off).take n))else none
 |_,_=>none
def eM{off:Nat}{cs:List D}:Vx off none (.agg cs)=cs[off]?:=rfl
def lH{off n:Nat}{cs:List D}:Vx off (some n) (.agg cs)=if off+n<=cs.length then some (.agg ((cs.drop off).take n))else none:=rfl
def aGs{k:Option Nat}{off:Nat}{x:G9}:AB S s m fr (.field k off x) K=Hm (Vx off k (x.ev s)) (λd=>K d []) .mk:=by
 simp only[AB,Ax];unfold Vx;cases x.ev s<;>cases k<;>simp only[AR,CK,FN]
def Vt(sz:Nat):D->D->(K:D->Ha->Prop)->Tag K->Prop
 | .slice _ _ xs,.int _ n,K,_=>As (0<=n) (Hm xs[n.toNat]? (λd=>As (d.cells.length=sz) (K (.eptr d.cells) []) .mk) .mk) .mk
 | .row i l,.int _ n,K,_=>As (0<=n∧n<(l:Int)) (K (.ptr i (if sz=1 then n.toNat else n.toNat*sz)) []) .mk
 |_,_,_,_=>False
def lA{sz l:Nat}{i:Id}{k:IntKind}{n:Int}{g:Tag K}:Vt sz (.row i l) (.int k n) K g=As (0<=n∧n<(l:Int)) (K (.ptr i (if sz=1 then n.toNat else n.toNat*sz)) []) .mk:=rfl
def Vs{sz:Nat}{nl:Bool}{t:Id}{xs:List D}{k:IntKind}{n:Int}{g:Tag K}:Vt sz (.slice nl t xs) (.int k n) K g=As (0<=n) (Hm xs[n.toNat]? (λd=>As (d.cells.length=sz) (K (.eptr d.cells) []) .mk) .mk) .mk:=rfl
def aGq{sz:Nat}{x i:G9}:AB S s m fr (.iaddr sz x i) K=Vt sz (x.ev s) (i.ev s) K .mk:=by
 simp only[AB,Ax];unfold Vt;cases x.ev s<;>cases i.ev s<;>first|(simp only[AR];done)|(simp only[FN,As];done)|skip
 rename_i nl t xs k n;rw[EJ];simp only[As];congr 1;cases xs[n.toNat]? with
 |none=>simp only[AR]
 |some d=>simp only[A3,FN,As]
def aCs:D->D->(K:D->Ha->Prop)->Tag K->Prop
 | .str b,.int _ n,K,_=>As (0<=n) (Hm b[n.toNat]? (λc=>K (.int .u8 (c.toNat:Int)) []) .mk) .mk
 |_,_,_,_=>False
def vK{b:List UInt8}{k:IntKind}{n:Int}{g:Tag K}:aCs (.str b) (.int k n) K g=As (0<=n) (Hm b[n.toNat]? (λc=>K (.int .u8 (c.toNat:Int)) []) .mk) .mk:=rfl
def aOD{x i:G9}:AB S s m fr (.idxs x i) K=aCs (x.ev s) (i.ev s) K .mk:=by
 simp only[AB,Ax];unfold aCs;cases x.ev s<;>cases i.ev s<;>try simp only[AR]
 rw[EJ,CK]
def lC(len sz:Nat):D->D->(K:D->Ha->Prop)->Tag K->Prop
 | .ptr j o,.int _ n,K,_=>As (0<=n∧n<(len:Int)) (K (.ptr j (o+n.toNat*sz)) []) .mk
 |_,_,_,_=>False
def lB{len sz o:Nat}{j:Id}{k:IntKind}{n:Int}{g:Tag K}:lC len sz (.ptr j o) (.int k n) K g=As (0<=n∧n<(len:Int)) (K (.ptr j (o+n.toNat*sz)) []) .mk:=rfl
def aGr{len sz:Nat}{x i:G9}:AB S s m fr (.iadda len sz x i) K=lC len sz (x.ev s) (i.ev s) K .mk:=by
 simp only[AB,Ax];unfold lC;cases x.ev s<;>cases i.ev s<;>try simp only[AR]
 rw[FN,As]
def aCt(len sz:Nat):D->D->(K:D->Ha->Prop)->Tag K->Prop
 | .agg cs,.int _ n,K,_=>As (0<=n∧n<(len:Int)∧n.toNat*sz+sz<=cs.length) (K (.agg ((cs.drop (n.toNat*sz)).take sz)) []) .mk
 |_,_,_,_=>False
def vL{len sz:Nat}{cs:List D}{k:IntKind}{n:Int}{g:Tag K}:aCt len sz (.agg cs) (.int k n) K g=As (0<=n∧n<(len:Int)∧n.toNat*sz+sz<=cs.length) (K (.agg ((cs.drop (n.toNat*sz)).take sz)) []) .mk:=rfl
def aOE{len sz:Nat}{x i:G9}:AB S s m fr (.idxm len sz x i) K=aCt len sz (x.ev s) (i.ev s) K .mk:=by
 simp only[AB,Ax];unfold aCt;cases x.ev s<;>cases i.ev s<;>try simp only[AR]
 rw[FN,As]
def aCu(len:Nat):D->D->(K:D->Ha->Prop)->Tag K->Prop
 | .agg cs,.int _ n,K,_=>As (0<=n∧n<(len:Int)) (Hm cs[n.toNat]? (λd=>K d []) .mk) .mk
 |_,_,_,_=>False
def vM{len:Nat}{cs:List D}{k:IntKind}{n:Int}{g:Tag K}:aCu len (.agg cs) (.int k n) K g=As (0<=n∧n<(len:Int)) (Hm cs[n.toNat]? (λd=>K d []) .mk) .mk:=rfl
def aOF{len:Nat}{x i:G9}:AB S s m fr (.idxa len x i) K=aCu len (x.ev s) (i.ev s) K .mk:=by
 simp only[AB,Ax];unfold aCu;cases x.ev s<;>cases i.ev s<;>try simp only[AR]
 rw[EJ,CK]
def aHD(n:Bool):D->D->Option D
 | .int k a,.int _ b=>some (.int k (if n=true then max a b else min a b))
 |_,_=>none
def aPB{k p:IntKind}{a b:Int}:aHD true (.int k a) (.int p b)=some (.int k (max a b)):=rfl
def aPC{k p:IntKind}{a b:Int}:aHD false (.int k a) (.int p b)=some (.int k (min a b)):=rfl
def aSq{n:Bool}{x y:G9}:AB S s m fr (.mxm n x y) K=Hm (aHD n (x.ev s) (y.ev s)) (λd=>K d []) .mk:=by
 simp only[AB,Ax];unfold aHD;cases x.ev s<;>cases y.ev s<;>simp[AR,A3]
def De(b r:Nat):Option D->Option Nat
 |none=>some b
 |some (.int _ n)=>if 0<=n∧n<=r then some n.toNat else none
 |some _=>none
def Ie(s:Nat->D):Option G9->Option D
 |none=>none
 |some a=>some (a.ev s)
def jS:Ie s none=none:=rfl
def jR{a:G9}:Ie s (some a)=some (a.ev s):=rfl
def fR{a b:Nat}:De a b none=some a:=rfl
def mM{a b:Nat}{k:IntKind}{n:Int}:De a b (some (.int k n))=if 0<=n∧n<=b then some n.toNat else none:=rfl
def fQ{x:Option G9}{a b:Nat}:FI s x a b=De a b (Ie s x):=by
 cases x with
 |none=>rfl
 |some x=>simp only[FI,Ie,De];cases x.ev s<;>rfl
def aDW:D->Option D->Option D->(K:D->Ha->Prop)->Tag K->Prop
 | .str b,lo,hi,K,_=>Hm (De b.length b.length hi) (λh=>Hm (De 0 h lo) (λl=>K (.str ((b.drop l).take (h-l))) []) .mk) .mk
 |_,_,_,_,_=>False
def xF{b:List UInt8}{lo hi:Option D}{g:Tag K}:aDW (.str b) lo hi K g=Hm (De b.length b.length hi) (λh=>Hm (De 0 h lo) (λl=>K (.str ((b.drop l).take (h-l))) []) .mk) .mk:=rfl
def aOG{x:G9}{lo hi:Option G9}:AB S s m fr (.cuts x lo hi) K=aDW (x.ev s) (Ie s lo) (Ie s hi) K .mk:=by
 simp only[AB,Ax];unfold aDW;cases x.ev s<;>simp only[AR,fQ];rename_i b;cases De b.length b.length (Ie s hi)with
 |none=>simp only[AR]
 |some h=>
  simp only[A3];cases De 0 h (Ie s lo)with
  |none=>simp only[AR]
  |some l=>simp only[A3]
def aDX(sz:Nat):D->Option D->Option D->(K:D->Ha->Prop)->Tag K->Prop
 | .slice nl _ xs,lo,hi,K,_=>As (aD xs sz=sz) (Hm (De xs.length xs.length hi) (λh=>Hm (De 0 h lo) (λl=>K (.slice nl [] ((xs.drop l).take (h-l))) []) .mk) .mk) .mk
 |_,_,_,_,_=>False
def fC{sz:Nat}{nl:Bool}{t:Id}{xs:List D}{lo hi:Option D}{g:Tag K}:aDX sz (.slice nl t xs) lo hi K g=As (aD xs sz=sz) (Hm (De xs.length xs.length hi) (λh=>Hm (De 0 h lo) (λl=>K (.slice nl [] ((xs.drop l).take (h-l))) []) .mk) .mk) .mk:=rfl
def aOH{sz:Nat}{x:G9}{lo hi:Option G9}:AB S s m fr (.cutl sz x lo hi) K=aDX sz (x.ev s) (Ie s lo) (Ie s hi) K .mk:=by
 simp only[AB,Ax];unfold aDX;cases x.ev s<;>simp only[AR,fQ];rename_i nl t xs;rw[EJ];cases De xs.length xs.length (Ie s hi)with
 |none=>simp[Hm,As]
 |some h=>
  simp only;cases h1:De 0 h (Ie s lo)with
  |none=>simp[Hm,As,h1]
  |some l=>simp[Hm,As,h1]
def aOA{t:TypeId}{x:G9}:AB S s m fr (.mkif t x) K=As ((x.ev s).data=true∧(x.ev s).un.calm=true) (K (.iface t (x.ev s).un) []) .mk:=by
 simp only[AB,Ax];rw[EJ,A3]
def aQL(i:Nat):D->Option D
 | .tup vs=>vs[i]?
 |_=>none
def aCM{i:Nat}{vs:List D}:aQL i (.tup vs)=vs[i]?:=rfl
def aSs{i:Nat}{x:G9}:AB S s m fr (.ext i x) K=Hm (aQL i (x.ev s)) (λd=>K d []) .mk:=by
 simp only[AB,Ax];unfold aQL;cases x.ev s<;>simp[AR,CK]
def aOB{f:FuncId}{caps:List G9}:AB S s m fr (.mkfn f caps) K=K (.fn f (caps.map (·.ev s))) []:=by simp[AB,Ax,Hm]
def aSr{b:Bool}{x:G9}:AB S s m fr (.len b x) K=Hm (kK b (x.ev s)) (λn=>K (.int .i64 (n:Int)) []) .mk:=X2
def aBS{b:List UInt8}:kK true (.str b)=some b.length:=rfl
def kJ{nl:Bool}{t:Id}{xs:List D}:kK false (.slice nl t xs)=some xs.length:=rfl
def aBT{i:Id}{n:Nat}:kK false (.row i n)=some n:=rfl
def I6(m:G6)(e:Nat):D->Prop
 | .slice nl t _=>nl=true∨(m t 0=some (.tok (e+1))∧t≠[])
 |_=>False
def Be(e:Nat)(fr:Id):D->Ha
 | .slice true _ _=>[(fr,0,[.tok (e+1)])]
 | .slice false t _=>[(t,0,[.tok 0]),(fr,0,[.tok (e+1)])]
 |_=>[]
def aQ9(e sz bytes:Nat)(fr:Id):D->Option (List D)->(m:G6)->(K:D->Ha->Prop)->Tag (m,K)->Prop
 | .slice nl t xs,some ys,m,K,_=>OP (nl=true∧ys=[]) (K (.slice true [] []) [])
   (As ((xs.length+ys.length)*(bytes+1)<=140737488355328∧aD ys sz=sz∧I6 m e (.slice nl t xs)) (K (.slice false fr (if nl=true then ys else xs++ys)) (Be e fr (.slice nl t xs))) .mk) .mk
 |_,_,_,_,_=>False
def V_{sz:Nat}{nl:Bool}{t:Id}{ys:List D}:I0 sz (.slice nl t ys)=some ys:=rfl
def mR{sz:Nat}{b:List UInt8}:I0 sz (.str b)=if sz=1 then some (Az b)else none:=rfl
def mS{e sz bytes:Nat}{nl:Bool}{t:Id}{xs ys:List D}{g:Tag (m,K)}:aQ9 e sz bytes fr (.slice nl t xs) (some ys) m K g=OP (nl=true∧ys=[]) (K (.slice true [] []) [])
   (As ((xs.length+ys.length)*(bytes+1)<=140737488355328∧aD ys sz=sz∧I6 m e (.slice nl t xs)) (K (.slice false fr (if nl=true then ys else xs++ys)) (Be e fr (.slice nl t xs))) .mk) .mk:=rfl
def B0{nl:Bool}{xs ys:List D}(h:nl=true->xs=[]):(if nl=true then ys else xs++ys)=xs++ys:=by
 simp_all
def aSx{e sz bytes:Nat}{x y:G9}:AB S s m fr (.app e sz bytes x y) K=aQ9 e sz bytes fr (x.ev s) (I0 sz (y.ev s)) m K .mk:=by
 simp only[AB,Ax];unfold aQ9;cases x.ev s<;>cases I0 sz (y.ev s)<;>simp only[AR];rename_i nl t xs ys;by_cases u:nl=true∧ys=[]
 ·grind [A3,OP]
 ·rw[if_neg u];have n:∀A B:Prop,OP (nl=true∧ys=[]) A B .mk=B:=λA B=>by simp[OP,u]
  rw[n,EJ];cases nl with
  |true=>simp[Hm,As,Be,I6,and_assoc]
  |false=>
   simp only[QR,I6,Be,false_or];cases hm:m t 0 with
   |none=>simp[Hm,As]
   |some d=>
    cases d with
    |tok k=>
     by_cases o:k=e+1∧t≠[]
     ·grind [Hm,As]
     ·grind [Hm,As]
    |_=>simp[Hm,As]
def aBz(e sz bytes:Nat)(z:D)(fr:Id):D->D->(K:D->Ha->Prop)->Tag K->Prop
 | .int _ n,.int _ c,K,_=>As (0<=n∧n<=c∧c*(bytes+1)<=140737488355328∧z.cells.length=sz) (if z.isRw=true then As (n=c) (K (.row fr n.toNat) [(fr,0,Q7 n.toNat z)]) .mk else K (.slice false fr (Q7 n.toNat z)) [(fr,0,[.tok (e+1)])]) .mk
 |_,_,_,_=>False
def uZ{e sz bytes:Nat}{z:D}{k p:IntKind}{n c:Int}{g:Tag K}:aBz e sz bytes z fr (.int k n) (.int p c) K g=As (0<=n∧n<=c∧c*(bytes+1)<=140737488355328∧z.cells.length=sz) (if z.isRw=true then As (n=c) (K (.row fr n.toNat) [(fr,0,Q7 n.toNat z)]) .mk else K (.slice false fr (Q7 n.toNat z)) [(fr,0,[.tok (e+1)])]) .mk:=rfl
def aH8:D.isRw .nilIface=true:=rfl
def aCk{k:IntKind}{n:Int}:D.isRw (.int k n)=false:=rfl
def aCj:D.isRw (.str [])=true:=rfl
def vH{b:Bool}:D.isRw (.bool b)=false:=rfl
def kW{nl:Bool}{t:Id}{xs:List D}:D.isRw (.slice nl t xs)=false:=rfl
def aCl{xs:List D}:D.isRw (.agg xs)=false:=rfl
def aOz{e sz bytes:Nat}{z:D}{n c:G9}:AB S s m fr (.mksl e sz bytes z n c) K=aBz e sz bytes z fr (n.ev s) (c.ev s) K .mk:=by
 simp only[AB,Ax];unfold aBz;cases n.ev s<;>cases c.ev s<;>first|(simp only[AR];done)|skip
 by_cases o:z.isRw=true
 ·simp_all [EJ,A3,As]
 ·simp_all [EJ,A3,As]
def RX(S:GZ):D->List D->(m:G6)->Id->(K:D->Ha->Prop)->Tag (m,K)->Prop
 | .fn f caps,ds,m,fr,K,_=>Hm (S f) (λq=>Hm (q.ex (ds++caps) m fr) (λx=>K x.1 x.2) .mk) .mk
 |_,_,_,_,_,_=>False
def aOJ{f:G9}{xs:List G9}:AB S s m fr (.call f xs) K=RX S (f.ev s) (xs.map (·.ev s)) m fr K .mk:=by
 simp only[AB,Ax];unfold RX;cases f.ev s<;>simp only[AR];rename_i f caps;cases S f with
 |none=>simp only[AR]
 |some q=>simp only[A3]
def AG{f:FuncId}{caps ds:List D}{q:HF}{g:Tag (m,K)}(h:S f=some q):RX S (.fn f caps) ds m fr K g=Hm (q.ex (ds++caps) m fr) (λx=>K x.1 x.2) .mk:=by
 grind [RX,A3]
def Ab{f:FuncId}{caps ds:List D}{F:List D->Option D}{g:Tag (m,K)}(h:S f=some (Ac F)):RX S (.fn f caps) ds m fr K g=As (((ds++caps).map D.un).all D.calm=true) (Hm (F ((ds++caps).map D.un)) (λr=>K r []) .mk) .mk:=by
 rw[AG h];simp only[Ac,EJ,As];rw[CK]
def AE(S:GZ)(f:FuncId){q:HF}(h:S f=some q:=by exact rfl){caps ds:List D}{g:Tag (m,K)}:RX S (.fn f caps) ds m fr K g=Hm (q.ex (ds++caps) m fr) (λx=>K x.1 x.2) .mk:=AG h
def Ae(S:GZ)(f:FuncId){F:List D->Option D}(h:S f=some (Ac F):=by exact rfl){caps ds:List D}{g:Tag (m,K)}:RX S (.fn f caps) ds m fr K g=As (((ds++caps).map D.un).all D.calm=true) (Hm (F ((ds++caps).map D.un)) (λr=>K r []) .mk) .mk:=Ab h
end
def Af{S:GZ}{ns:Id}{c b:DC}{Q:Ex->St->Prop}{y:St}{t:Tag (S,ns,c,Q,y)}(h:c=b)(k:b.wp S ns (cV S ns c Q) y):Ba S ns c Q y t:=aAa (h▸k)
section
variable{k:IntKind}{a b:Int}
def aSW:AP .add (.int k a) (.int k b)=some (.int k (k.wrap (a+b))):=Xn
def aSG:AP .sub (.int k a) (.int k b)=some (.int k (k.wrap (a-b))):=Xn
def aSO:AP .mul (.int k a) (.int k b)=some (.int k (k.wrap (a*b))):=Xn
def aSK:AP .quo (.int k a) (.int k b)=if b≠0 then some (.int k (k.wrap (a.tdiv b)))else none:=by by_cases h:b=0<;>simp[AP,h]
def aSJ:AP .rem (.int k a) (.int k b)=if b≠0 then some (.int k (a.tmod b))else none:=by by_cases h:b=0<;>simp[AP,h]
def aSV:AP .and (.int k a) (.int k b)=some (.int k (bits .and k a b)):=Xn
def aXG:AP .or (.int k a) (.int k b)=some (.int k (bits .or k a b)):=Xn
def aSF:AP .xor (.int k a) (.int k b)=some (.int k (bits .xor k a b)):=Xn
def aST:AP .eql (.int k a) (.int k b)=some (.bool (decide (a=b))):=by simp[AP];rfl
def aSM:AP .neq (.int k a) (.int k b)=some (.bool (decide (¬a=b))):=by simp[AP];rfl
def aSP:AP .lss (.int k a) (.int k b)=some (.bool (decide (a<b))):=Xn
def aSQ:AP .leq (.int k a) (.int k b)=some (.bool (decide (a<=b))):=Xn
def aSR:AP .gtr (.int k a) (.int k b)=some (.bool (decide (b<a))):=Xn
def aSS:AP .geq (.int k a) (.int k b)=some (.bool (decide (b<=a))):=Xn
def aSI{p:IntKind}:AP .shl (.int k a) (.int p b)=if 0<=b then some (.int k (k.wrap (a*2 ^ min b.toNat k.bits)))else none:=Xn
def aSH{p:IntKind}:AP .shr (.int k a) (.int p b)=if 0<=b then some (.int k (a.fdiv (2 ^ min b.toNat k.bits)))else none:=Xn
variable{x y:List UInt8}
def aSU:AP .add (.str x) (.str y)=if x.length+y.length<=9223372036854775807 then some (.str (x++y))else none:=Xn
def aOR:AP .eql (.str x) (.str y)=some (.bool (decide (x=y))):=by
 grind [AP]
def aOQ:AP .neq (.str x) (.str y)=some (.bool (decide (¬x=y))):=by
 grind [AP]
def aSL{p:Bool}:wG .not (.bool p)=some (.bool (!p)):=rfl
def aSN:wG .neg (.int k a)=some (.int k (k.wrap (0-a))):=rfl
end
def aHA{p:Prop}[Decidable p]:(!decide p)=decide (¬p):=by by_cases h:p<;>simp[h]
def aCZ{p:Prop}[Decidable p]:(decide p=true)=p:=U
def xB{p:Prop}[Decidable p]:(decide p=false)=¬p:=U
def aYA:(false=true)=False:=U
def aXI:(true=false)=False:=U
def aIb{p A B:Prop}{t:Tag (A,B)}:OP (¬p) A B t=OP p B A .mk:=by
 grind [OP]
def uH{o:DOper}{l:List DOper}:DL (o::l) 0=o.dst:=rfl
def uI{o:DOper}{l:List DOper}{j:Nat}:DL (o::l) (j+1)=DL l j:=by simp[DL]
def aII{m:G6}:Ha.app m []=m:=rfl
def aEk{m:G6}{i:Id}{o:Nat}{ds:List D}{u:Ha}:Ha.app m ((i,o,ds)::u)=Ha.app (m.put i o ds) u:=rfl
def WI:BI []=some []:=rfl
def Uv{n:Int}{r:List D}:BI (.int .u8 n::r)=(BI r).map (UInt8.ofNat n.toNat::·):=rfl
def U2{α β:Type}{f:α->β}{x:α}:(some x).map f=some (f x):=rfl
def eR{rs:List RV}{R:D->G6->Prop}{y:St}:Ee rs R .normal y=Hm (C9 rs y.s y.m) (λd=>R d y.m) .mk:=by
 simp[Ee,Hm]
def aCO{rs:List RV}{R:D->G6->Prop}{y:St}:Ee rs R .ret y=Hm (C9 rs y.s y.m) (λd=>R d y.m) .mk:=by
 simp[Ee,Hm]
def wK{rs:List RV}{R:D->G6->Prop}{y:St}{i:Nat}:Ee rs R (.exit i) y=False:=by
 simp[Ee]
def aHf{s:Nat->D}{m:G6}{t:Nat}:C9 [.t t] s m=some (s t):=rfl
def aHe{s:Nat->D}{m:G6}{t z:Nat}:C9 [.t t,.t z] s m=some (.tup [s t,s z]):=rfl
def uQ{s:Nat->D}{m:G6}{t z a:Nat}:C9 [.t t,.t z,.t a] s m=some (.tup [s t,s z,s a]):=rfl
def aAU{s:Nat->D}{m:G6}:C9 [] s m=some (.tup []):=rfl
def lK{d:D}{ds:List D}:BL (d::ds) 0=d:=rfl
def lL{d:D}{ds:List D}{t:Nat}:BL (d::ds) (t+1)=BL ds t:=rfl
def wH{t:Nat}:BL [] t= .junk:=rfl
def W3(S:GZ)(ns:Id)(c:Nat)(ops l:List DOper)(k:Nat)(s:Nat->D)(b:Option Nat)(m:G6)(K:Nat->(Nat->D)->G6->Prop)(d:D)(u:Ha):Prop:=F6 S ns c ops l k (CL s b d) (Ha.app m u) K
def NU(S:GZ)(ns:Id)(c:Nat)(ops l:List DOper)(k:Nat)(s:Nat->D)(b:Option Nat)(m:G6)(op:DOp)(K:Nat->(Nat->D)->G6->List Mb->Prop)(d:D)(u:Ha):Prop:=
 Cp S ns c ops l k (CL s b d) (Ha.app m u) λp r m' f=>K p r m' ((Hr S s m op,AI u)::f)
section
variable{S:GZ}{ns:Id}{c k:Nat}{ops l:List DOper}{s:Nat->D}{m:G6}{dst:Option Nat}{op:DOp}{af:List Nat}{j:Nat}{b:Bool}{d:D}{i:Id}{o e:Nat}{fr:Id}{ds:List D}{u:Ha}
section
variable{K:Nat->(Nat->D)->G6->Prop}
def aG7:F6 S ns c ops [] k s m K=K k s m:=rfl
def aG6:F6 S ns c ops (⟨dst,op,af,none⟩::l) k s m K=AB S s m ((c+k)::ns) op (W3 S ns c ops l (k+1) s dst m K):=rfl
def aPe:F6 S ns c ops (⟨dst,op,af,some (j,b)⟩::l) k s m K=L0 (GO s (DL ops j)) b
   (AB S s m ((c+k)::ns) op (W3 S ns c ops l (k+1) s dst m K)) (F6 S ns c ops l (k+1) (CL s dst (.tup [])) m K) .mk:=rfl
def aAN:W3 S ns c ops l k s dst m K d []=F6 S ns c ops l k (CL s dst d) m K:=rfl
def uO:W3 S ns c ops l k s dst m K d ((i,o,ds)::u)=W3 S ns c ops l k s dst (m.put i o ds) K d u:=rfl
def NC{b:D}:W3 S ns c ops l k s dst m K d (Be e fr b)=F6 S ns c ops l k (CL s dst d) (Ha.app m (Be e fr b)) K:=rfl
end
variable{K:Nat->(Nat->D)->G6->List Mb->Prop}
def wO:Cp S ns c ops [] k s m K=K k s m []:=rfl
def wN:Cp S ns c ops (⟨dst,op,af,none⟩::l) k s m K=AB S s m ((c+k)::ns) op (NU S ns c ops l (k+1) s dst m op K):=rfl
def aCR:Cp S ns c ops (⟨dst,op,af,some (j,b)⟩::l) k s m K=L0 (GO s (DL ops j)) b
   (AB S s m ((c+k)::ns) op (NU S ns c ops l (k+1) s dst m op K))
   (Cp S ns c ops l (k+1) (CL s dst (.tup [])) m λp r m' f=>K p r m' ((Hr S s m op,[])::f)) .mk:=rfl
def lN:NU S ns c ops l k s dst m op K d []=Cp S ns c ops l k (CL s dst d) m λp r m' f=>K p r m' ((Hr S s m op,[])::f):=rfl
def eU:NU S ns c ops l k s dst m op K d ((i,o,ds)::u)=Cp S ns c ops l k (CL s dst d) (Ha.app (m.put i o ds) u) λp r m' f=>K p r m' ((Hr S s m op,AI ((i,o,ds)::u))::f):=rfl
def eT{b:D}:NU S ns c ops l k s dst m op K d (Be e fr b)=Cp S ns c ops l k (CL s dst d) (Ha.app m (Be e fr b)) λp r m' f=>K p r m' ((Hr S s m op,AI (Be e fr b))::f):=rfl
end
def aDU{k:IntKind}{n:Int}:D.data (.int k n)=true:=rfl
def aDS{b:List UInt8}:D.data (.str b)=true:=rfl
def xE{b:Bool}:D.data (.bool b)=true:=rfl
def mC{nl:Bool}{t:Id}{xs:List D}:D.data (.slice nl t xs)=true:=rfl
def aDV{xs:List D}:D.data (.agg xs)=true:=rfl
def aDT{i:Id}{o:Nat}:D.data (.ptr i o)=true:=rfl
def fB:D.data .nilptr=true:=rfl
def xN{k:IntKind}{n:Int}:D.cells (.int k n)=[.int k n]:=rfl
def xL{b:List UInt8}:D.cells (.str b)=[.str b]:=rfl
def mF{b:Bool}:D.cells (.bool b)=[.bool b]:=rfl
def FF{nl:Bool}{t:Id}{xs:List D}:D.cells (.slice nl t xs)=[.slice nl t xs]:=rfl
def xO{xs:List D}:D.cells (.agg xs)=xs:=rfl
def xM{i:Id}{o:Nat}:D.cells (.ptr i o)=[.ptr i o]:=rfl
def aOW{k:IntKind}{n:Int}:D.un (.int k n)= .int k n:=rfl
def aOV{b:List UInt8}:D.un (.str b)= .str b:=rfl
def aGJ{b:Bool}:D.un (.bool b)= .bool b:=rfl
def aAm{nl:Bool}{t:Id}{xs:List D}:D.un (.slice nl t xs)= .slice nl [] xs:=rfl
def aOX{xs:List D}:D.un (.agg xs)= .agg (xs.map D.un1):=rfl
def aSX{f:FuncId}{cs:List D}:D.un (.fn f cs)= .fn f cs:=rfl
def aGP{k:IntKind}{n:Int}:D.un1 (.int k n)= .int k n:=rfl
def aGO{b:List UInt8}:D.un1 (.str b)= .str b:=rfl
def aAo{b:Bool}:D.un1 (.bool b)= .bool b:=rfl
def tT{nl:Bool}{t:Id}{xs:List D}:D.un1 (.slice nl t xs)= .slice nl [] xs:=rfl
def aGM{k:IntKind}{n:Int}:D.unR (.int k n)= .int k n:=rfl
def aGL{b:List UInt8}:D.unR (.str b)= .str b:=rfl
def aAn{b:Bool}:D.unR (.bool b)= .bool b:=rfl
def tN{nl:Bool}{t:Id}{xs:List D}:D.unR (.slice nl t xs)= .slice nl [] xs:=rfl
def aGN{xs:List D}:D.unR (.agg xs)= .agg (xs.map D.un1):=rfl
def aGK{xs:List D}:D.unR (.tup xs)= .tup (xs.map D.un):=rfl
def aD8{k:IntKind}{n:Int}:D.calm (.int k n)=true:=rfl
def aD6{b:List UInt8}:D.calm (.str b)=true:=rfl
def xS{b:Bool}:D.calm (.bool b)=true:=rfl
def mG{nl:Bool}{xs:List D}:D.calm (.slice nl [] xs)=true:=rfl
def xT{xs:List D}:D.calm (.agg xs)=xs.all D.calm1:=rfl
def aIE{f:FuncId}:D.calm (.fn f [])=true:=rfl
def xZ{k:IntKind}{n:Int}:D.calm1 (.int k n)=true:=rfl
def xY{b:List UInt8}:D.calm1 (.str b)=true:=rfl
def mJ{b:Bool}:D.calm1 (.bool b)=true:=rfl
def fO{nl:Bool}{xs:List D}:D.calm1 (.slice nl [] xs)=true:=rfl
def xW{k:IntKind}{n:Int}:D.calmR (.int k n)=true:=rfl
def xV{b:List UInt8}:D.calmR (.str b)=true:=rfl
def mI{b:Bool}:D.calmR (.bool b)=true:=rfl
def fN{nl:Bool}{xs:List D}:D.calmR (.slice nl [] xs)=true:=rfl
def xX{xs:List D}:D.calmR (.agg xs)=xs.all D.calm1:=rfl
def xU{xs:List D}:D.calmR (.tup xs)=xs.all D.calm:=rfl
def aPP{f:D->D}{x:D}{xs:List D}:(x::xs).map f=f x::xs.map f:=rfl
def aH2{f:D->D}:ZP f []=[]:=rfl
def aPO{f:G9->D}{x:G9}{xs:List G9}:(x::xs).map f=f x::xs.map f:=rfl
def aH1{f:G9->D}:ZP f []=[]:=rfl
def aPN{f:Nat×Nat×G9->Nat×Nat×D}{x:Nat×Nat×G9}{xs:List (Nat×Nat×G9)}:(x::xs).map f=f x::xs.map f:=rfl
def aH0{f:Nat×Nat×G9->Nat×Nat×D}:ZP f []=[]:=rfl
def aUQ{f:D->Bool}{x:D}{xs:List D}:(x::xs).all f=(f x&&xs.all f):=rfl
def aPW{f:D->Bool}:List.all [] f=true:=rfl
def aUO{x:D}{xs:List D}:(x::xs).length=xs.length+1:=rfl
def aPQ:([]:List D).length=0:=rfl
def aUP{x:D}{xs ys:List D}:(x::xs)++ys=x::(xs++ys):=rfl
def aPV{ys:List D}:[]++ys=ys:=rfl
def aPU{ys:List D}:ys++[]=ys:=U
def aPT{x:D}{xs:List D}:(x::xs)[0]?=some x:=rfl
def aPS{x:D}{xs:List D}{n:Nat}:(x::xs)[n+1]?=xs[n]?:=rfl
def aPR{x:D}{xs:List D}:(x::xs).head?=some x:=rfl
def aUK{n:Nat}:(n==n)=true:=U
def aPq:(True∧True)=True:=U
def aTg{p:Prop}:(True∧p)=p:=U
def aPr{p:Prop}:(p∧True)=p:=U
def aXT:(¬False)=True:=U
def aXS:(¬True)=False:=U
def aYF:(true=true)=True:=U
def aYG:(false=false)=True:=U
def aYC:decide True=true:=U
def aYD:decide False=false:=U
def C2:=Qa @WU <| Qa @aAA <| Qa @uL <| Qa @SI <| Qa @mN <| Qa @Ew <| Qa @Vl <| Qa @vD <| Qa @kH <| Qa @zZ <| Qa @aGy <| Qa @aAb <| Qa @aGw <| Qa @Wz <| Qa @iP <| Qa @sY <| Qa @Wy <| Qa @iO <| Qa @uJ <| Qa @uK <| Qa @bI <| Qa @bJ <| Qa @aXx <| Qa @aOx <| Qa @aGv <| Qa @aSt <| Qa @aGu <| Qa @zY <| Qa @aOC <| Qa @aGo <| Qa @aOy <| Qa @aGn <| Qa @zX <| Qa @aSu <| Qa @aXw <| Qa @aSv <| Qa @aSn <| Qa @aGp <| Qa @aOI <| Qa @aSo <| Qa @aSp <| Qa @aSw <| Qa @aGt <| Qa @aGs <| Qa @aGq <| Qa @aOD <| Qa @aOF <| Qa @aOE <| Qa @aSq <| Qa @aGr <| Qa @aOG <| Qa @aOH <| Qa @aOA <| Qa @aSs <| Qa @aOB <| Qa @aSr <| Qa @aSx <| Qa @aOz <| Qa @aOJ <| Qa @eR <| Qa @aCO <| Qa @wK <| Qa @aHf <| Qa @aHe <| Qa @uQ <| Qa @aAU <| Qa @aG7 <| Qa @aG6 <| Qa @aPe <| Qa @aAN <| Qa @uO <| Qa @NC <| Qa @lN <| Qa @eU <| Qa @eT <| Qa @wO <| Qa @wN <| Qa @aCR <| Qa @uH @uI
def G8:=Qa @Uk <| Qa @aCr <| Qa @vJ <| Qa @A3 <| Qa @AR <| Qa @EJ <| Qa @CK <| Qa @IQ <| Qa @lF <| Qa @CU <| Qa @L8 <| Qa @jO <| Qa @vE <| Qa @jL <| Qa @uX <| Qa @aBw <| Qa @kI <| Qa @Rj <| Qa @On <| Qa @jA <| Qa @cG <| Qa @Vc <| Qa @jX <| Qa @aQ8 <| Qa @aQ7 <| Qa @PO <| Qa @xG <| Qa @aAB <| Qa @aAC <| Qa @mP <| Qa @lI <| Qa @eO <| Qa @eM <| Qa @lH <| Qa @Vs <| Qa @vK <| Qa @vM <| Qa @vL <| Qa @aPB <| Qa @aPC <| Qa @lB <| Qa @xF <| Qa @fC <| Qa @jS <| Qa @jR <| Qa @fR <| Qa @mM <| Qa @aCM <| Qa @aBS <| Qa @kJ <| Qa @aBT <| Qa @mS <| Qa @V_ <| Qa @mR <| Qa @uZ <| Qa @aH8 <| Qa @aCk <| Qa @aCj <| Qa @vH <| Qa @kW <| Qa @aCl <| Qa @lA <| Qa @aSW <| Qa @aSG <| Qa @aSO <| Qa @aSK <| Qa @aSJ <| Qa @aSV <| Qa @aXG <| Qa @aSF <| Qa @aST <| Qa @aSM <| Qa @aSP <| Qa @aSQ <| Qa @aSR <| Qa @aSS <| Qa @aSI <| Qa @aSH <| Qa @aSU <| Qa @aOR <| Qa @aOQ <| Qa @aSL <| Qa @aSN <| Qa @aHA <| Qa @aCZ <| Qa @xB <| Qa @aYA <| Qa @aXI <| Qa @aIb <| Qa @aII <| Qa @aEk <| Qa @WI <| Qa @Uv <| Qa @U2 <| Qa @lK <| Qa @lL @wH
def H_:=Qa @aDU <| Qa @aDS <| Qa @xE <| Qa @mC <| Qa @aDV <| Qa @aDT <| Qa @fB <| Qa @xN <| Qa @xL <| Qa @mF <| Qa @FF <| Qa @xO <| Qa @xM <| Qa @aOW <| Qa @aOV <| Qa @aGJ <| Qa @aAm <| Qa @aOX <| Qa @aSX <| Qa @aGP <| Qa @aGO <| Qa @aAo <| Qa @tT <| Qa @aGM <| Qa @aGL <| Qa @aAn <| Qa @tN <| Qa @aGN <| Qa @aGK <| Qa @aD8 <| Qa @aD6 <| Qa @xS <| Qa @mG <| Qa @xT <| Qa @aIE <| Qa @xZ <| Qa @xY <| Qa @mJ <| Qa @fO <| Qa @xW <| Qa @xV <| Qa @mI <| Qa @fN <| Qa @xX @xU
def Hj:=Qa @aPP <| Qa @aH2 <| Qa @aPO <| Qa @aH1 <| Qa @aPN <| Qa @aH0 <| Qa @aUQ <| Qa @aPW <| Qa @aUO <| Qa @aPQ <| Qa @aUP <| Qa @aPV <| Qa @aPU <| Qa @aPT <| Qa @aPS <| Qa @aPR <| Qa @aUK <| Qa @aPq <| Qa @aTg <| Qa @aPr <| Qa @aXT <| Qa @aXS <| Qa @aYF <| Qa @aYG <| Qa @aYC <| Qa @aYD <| Qa @ZG <| Qa @Bool.and_true <| Qa @ZH @ZD
def G7:(type_of% @Qh.{0,0})∧(type_of% @QM.{0,0})∧(type_of% @G8)∧(type_of% @H_)∧(type_of% @Hj):=
 ⟨@Qh,@QM,@G8,@H_,@Hj⟩
def Hf:(type_of% @Qx.{0})∧(type_of% @Qm.{0})∧(type_of% @Qq.{0})∧(type_of% @QZ)∧(type_of% @Qv)∧(type_of% @QV)∧(type_of% @and_self)∧(type_of% @G8)∧(type_of% @H_)∧(type_of% @Hj):=
 ⟨@Qx,@Qm,@Qq,@QZ,@Qv,@QV,@and_self,@G8,@H_,@Hj⟩
def G_:(type_of% @G8)∧(type_of% @H_)∧(type_of% @Hj):=
 ⟨@G8,@H_,@Hj⟩
def Ai {P:Program} {f:FuncId} {N:Nat} {t:DC} {rs:List RV} {k:Func} {r:Code} (u:P.funcs[f]?=some k) (y:k.body=some r:=by rfl) (i:(k.name== "runtime.NumGoroutine")=false:=by kernel_rfl) (p:k.ntmps=N:=by rfl) (m:Cs P N r=some t:=by kernel_rfl) (s:LE P k.results.toList=some rs:=by kernel_rfl):Fn P f N t rs:=⟨k,r,u,y,i,p,m,s⟩
def startG(G:Nat->Nat):Gh:={G:=G,G0:=G,dl:=λ_=>none,tb:=λ_=>none}
def Nz(P:Program)(w:World){G:Nat->Nat}(k:∀b,w.heap.size<=b->G b=0):He P w.heap.size w (λ_ _=>none) w (startG G):=
 ⟨Below.refl _ _,Qz _,k,λ_ _=>rfl,λi b h=>by simp[startG]at h,λi v b h=>by simp[startG]at h,λi o d h=>Xd,λi e h=>Xd,λi v e n b x z h=>Xd,λi s p h=>Xd,λi v s p r a b x z h=>Xd⟩
def aPd{P:Program}{f:FuncId}{F:List D->Option D}(h:(Ac F).ok P f){w:World}{G:Nat->Nat}(u:∀b,w.heap.size<=b->G b=0){ds:List D}{vs:List Value}{d:D}(hl:vs.length=ds.length)
  (y:∀(j:Nat) d v,ds[j]?=some d->vs[j]?=some v->Rep w (startG G) d v) (x:ds.map D.un=ds) (s:ds.all D.calm=true) (a:F ds=some d):
  Calls P f vs.toArray w λe t=>∃v q,e= .returned v∧Rep t q d v∧Below w.heap.size w t:=by
 have z:(Ac F).ex ds (λ_ _=>none) []=some (d,[]):=by
  grind [Ac]
 refine(h.run (Nz P w u) (λi _=>⟨λ_=>rfl,rfl,rfl⟩) hl y z).mono ?_;rintro e t ⟨v,q,rfl,k⟩;exact⟨v,q,rfl,k.rep,k.inv.below⟩
def aAK{P:Program}{f:FuncId}{F:List D->Option D}(h:(Ac F).ok P f){w:World}{G:Nat->Nat}(k:∀b,w.heap.size<=b->G b=0){ds:List D}{vs:List Value}(hl:vs.length=ds.length)
  (y:∀(j:Nat) d v,ds[j]?=some d->vs[j]?=some v->Rep w (startG G) d v) (z:ds.map D.un=ds) (s:ds.all D.calm=true) (a:F ds=some (.bool true)):
  Calls P f vs.toArray w λe t=>e= .returned (.bool true)∧Below w.heap.size w t:=by
 refine(aPd h k hl y z s a).mono ?_;rintro e t ⟨v,q,rfl,i,m⟩;rw[i.bool_inv];exact⟨rfl,m⟩
def AX(f:List Mb)(ps:List (Nat×Nat)):Bool:=ps.all λp=>(f.getD p.1 ([],[])).2.all λl=>!((f.getD p.2 ([],[])).1.contains l)&&!((f.getD p.2 ([],[])).2.contains l)
def An{f:List Mb}{ps:List (Nat×Nat)}(h:AX f ps=true):L3 f ps:=by
 intro p c l hl;have u:=Qs.1 h p c;have y:=Qs.1 u l hl;simpa using y
def AV{f:List Mb}{ps:List (Nat×Nat)}{K:Prop}{t:Tag K}(k:K)(h:AX f ps=true:=by first|rfl|simp[AX,AI,Hr,Aj,Ac]):As (L3 f ps) K t:=⟨An h,k⟩
def DC.run(S:GZ)(ns:Id):Nat->DC->St->Option (Ex×St)
 |0,_,_=>none
 |_+1,.skip,st=>some (.normal,st)
 |_+1,.ret,st=>some (.ret,st)
 |_+1,.exit i,st=>some (.exit i,st)
 |_+1,.row ops,st=>match Eu S ns st.c ops ops 0 st.s st.m with
  |some (s,m)=>some (.normal,⟨s,m,st.c+ops.length⟩)
  |none=>none
 |_+1,.drawn ops ps,st=>match Co S ns st.c ops ops 0 st.s st.m with
  |some (s,m,f)=>if AX f ps=true then some (.normal,⟨s,m,st.c+ops.length⟩)else none
  |none=>none
 |n+1,.seq a b,st=>match DC.run S ns n a st with
  |some (.normal,st1)=>DC.run S ns n b st1
  |r=>r
 |n+1,.cond c a b,st=>match c.ev st.s with
  | .bool true=>DC.run S ns n a st
  | .bool false=>DC.run S ns n b st
  |_=>none
 |n+1,.block i c,st=>match DC.run S ns n c st with
  |some (.exit j,st1)=>if j=i then some (.normal,st1)else some (.exit j,st1)
  |r=>r
 |n+1,.loop c,st=>match DC.run S ns n c st with
  |some (.normal,st1)=>DC.run S ns n (.loop c) st1
  |r=>r
def aPc{S:GZ}{ns:Id}:∀(n:Nat)(t:DC)(y:St)(e:Ex)(x:St),DC.run S ns n t y=some (e,x)->Ev S ns t y e x:=by
 intro n;induction n with
 |zero=>intro t y e x h;simp[DC.run]at h
 |succ n ih=>
  intro t y e x h;cases t with
  |skip=>simp only[DC.run,Qb,Qr]at h;exact⟨h.1.symm,h.2.symm⟩
  |ret=>simp only[DC.run,Qb,Qr]at h;exact⟨h.1.symm,h.2.symm⟩
  |exit i=>simp only[DC.run,Qb,Qr]at h;exact⟨h.1.symm,h.2.symm⟩
  |row ops=>
   simp only[DC.run]at h;split at h
   ·rename_i s m v;simp only[Qb,Qr]at h;obtain⟨rfl,rfl⟩:=h;exact⟨rfl,v,rfl⟩
   ·cases h
  |drawn ops ps=>
   simp only[DC.run]at h;split at h
   ·rename_i s m f v;split at h
    ·rename_i hf;simp only[Qb,Qr]at h;obtain⟨rfl,rfl⟩:=h;exact⟨rfl,⟨f,v,An hf⟩,rfl⟩
    ·cases h
   ·cases h
  |seq a b=>
   simp only[DC.run]at h;split at h
   ·rename_i ia u;exact⟨.normal,ia,ih _ _ _ _ u,.inl ⟨rfl,ih _ _ _ _ h⟩⟩
   ·rename_i q;refine⟨e,x,ih _ _ _ _ h,.inr ⟨λv=>?_,rfl,rfl⟩⟩;subst v;exact q x h
  |cond c a b=>
   simp only[DC.run]at h;split at h
   ·rename_i w;exact .inl ⟨w,ih _ _ _ _ h⟩
   ·rename_i w;exact .inr ⟨w,ih _ _ _ _ h⟩
   ·cases h
  |block i c=>
   simp only[DC.run]at h;split at h
   ·rename_i j ia u;split at h
    ·rename_i d;simp only[Qb,Qr]at h;obtain⟨rfl,rfl⟩:=h;exact⟨.exit j,ih _ _ _ _ u,.inl ⟨by rw[d],rfl⟩⟩
    ·rename_i d;simp only[Qb,Qr]at h;obtain⟨rfl,rfl⟩:=h;exact⟨.exit j,ih _ _ _ _ u,.inr ⟨by simp[d],rfl⟩⟩
   ·rename_i q;refine⟨e,ih _ _ _ _ h,.inr ⟨λv=>?_,rfl⟩⟩;subst v;exact q i x h
  |loop c=>
   simp only[DC.run]at h;split at h
   ·rename_i ia u;obtain⟨k,o⟩:=ih _ _ _ _ h;exact⟨k+1,.more k _ _ _ _ (ih _ _ _ _ u) o⟩
   ·rename_i q;refine⟨0,.stop _ _ _ (ih _ _ _ _ h) (λv=>?_)⟩;subst v;exact q x h
def NS(S:GZ)(N:Nat)(t:DC)(rs:List RV)(fuel:Nat)(ds:List D):Option D:=
 if ds.length<=N then match DC.run S [] fuel t ⟨BL ds,λ_ _=>none,0⟩with
  |some (.exit _,_)=>none
  |some (_,st)=>match C9 rs st.s st.m with
   |some d=>if d.unR.calmR=true then some d.unR else none
   |none=>none
  |none=>none
 else none
def NR{P:Program}{S:GZ}{f:FuncId}{N:Nat}{t:DC}{rs:List RV}(g:GZ.ok P S)(e:Fn P f N t rs)(fuel:Nat):(Ac (NS S N t rs fuel)).ok P f:=by
 refine AM g e (λds r h=>?_) (λds r h=>?_)
 ·grind [NS]
 ·unfold NS at h;split at h
  ·split at h
   ·cases h
   ·rename_i u y q j;split at h
    ·rename_i d p;split at h
     ·rename_i w;simp only[Qb]at h;subst h;refine⟨u,y,aPc _ _ _ _ _ j,?_,d,p,rfl,w⟩;cases u with
      |normal=>exact .inl rfl
      |ret=>exact .inr rfl
      |exit i=>exact absurd rfl (q i)
     ·cases h
    ·cases h
   ·cases h
  ·cases h
end Go.Vd
namespace Go.Vd
open Go.Proofs Go.RowKit
inductive Tz where
 |bo|st|pt|fu|nf|mp|un
 |im (k:IntKind)
 |sl (e sz by':Nat)
 |gr (zs:List D) (fs:List (Nat×Nat))
 |ar (zs:List D) (len e:Nat)
def zT:Nat->Tz
 |3=> .im .i64
 |4=> .bo
 |5=> .im .u8
 |9=> .st
 |21=> .im .i32
 |22=> .im .u16
 |23=> .sl 9 1 16
 |26=> .sl 68 3 32
 |28=> .gr [(.slice true [] [])] [(0,26)]
 |29=> .sl 107 3 56
 |31=> .gr [(.slice true [] [])] [(0,29)]
 |33=> .gr [(.bool false),(.int .i64 0),(.str []),(.slice true [] []),(.slice true [] [])] [(0,4),(1,3),(2,9),(3,28),(4,31)]
 |34=> .pt
 |36=> .gr [.nilptr] [(0,34)]
 |38=> .gr [(.bool false),(.int .i64 0),(.str []),(.slice true [] []),(.slice true [] []),.nilptr,(.int .i64 0)] [(0,33),(5,36),(6,3)]
 |46=> .sl 3 1 8
 |47=> .sl 174 2 24
 |49=> .gr [(.int .u8 0),(.str []),(.str []),(.str []),(.int .i64 0),(.int .i64 0),(.bool false),(.slice true [] []),(.str []),(.slice true [] []),(.str [])] [(0,5),(1,9),(2,9),(3,9),(4,3),(5,3),(6,4),(7,46),(8,9),(9,47),(10,9)]
 |50=> .im .i64
 |58=> .fu
 |62=> .gr [(.int .u8 0),(.str []),(.int .i64 0)] [(0,5),(1,9),(2,3)]
 |66=> .gr [(.int .i64 0),(.bool false)] [(0,3),(1,4)]
 |68=> .gr [(.str []),(.int .i64 0),(.bool false)] [(0,9),(1,66)]
 |71=> .sl 80 3 16
 |73=> .gr [(.int .i64 0),(.bool false),(.int .i64 0),(.slice true [] [])] [(0,3),(1,4),(2,3),(3,71)]
 |80=> .gr [(.int .i64 0),(.bool false),(.bool false)] [(0,3),(1,4),(2,4)]
 |85=> .gr [(.int .u8 0),(.int .i64 0),(.int .i64 0),(.str []),(.slice true [] []),(.int .i64 0),(.bool false),(.int .i64 0),(.slice true [] []),(.bool false)] [(0,5),(1,50),(2,3),(3,9),(4,23),(5,73),(9,4)]
 |98=> .sl 167 3 40
 |100=> .gr [(.str []),(.bool false),(.str []),(.slice true [] []),(.bool false),(.int .i64 0),(.str []),(.slice true [] []),(.slice true [] [])] [(0,9),(1,4),(2,9),(3,98),(4,33)]
 |107=> .gr [(.str []),(.str []),(.slice true [] [])] [(0,9),(1,9),(2,47)]
 |108=> .sl 5 1 1
 |109=> .im .u64
 |113=> .gr [(.str []),(.str [])] [(0,9),(1,9)]
 |124=> .pt
 |126=> .gr [(.str []),(.int .i64 0),(.int .i64 0)] [(0,9),(1,3),(2,50)]
 |133=> .fu
 |136=> .gr [(.str []),(.str []),.nilptr,.nilptr,(.int .i64 0),(.int .i64 0),(.int .i64 0)] [(0,9),(1,9),(2,34),(3,34),(4,3),(5,3),(6,3)]
 |150=> .fu
 |160=> .sl 4 1 1
 |161=> .sl 23 1 24
 |163=> .gr [(.slice true [] []),(.slice true [] []),(.slice true [] []),(.slice true [] []),(.slice true [] [])] [(0,23),(1,23),(2,160),(3,23),(4,161)]
 |167=> .gr [(.int .u8 0),(.str []),(.str [])] [(0,5),(1,9),(2,9)]
 |170=> .fu
 |174=> .gr [(.str []),(.int .u8 0)] [(0,9),(1,5)]
 |176=> .ar [(.str []),(.str []),(.str []),(.str []),(.str []),(.str []),(.str []),(.str []),(.str []),(.str []),(.str []),(.str []),(.str []),(.str []),(.str []),(.str []),(.str []),(.str []),(.str []),(.str []),(.str []),(.str []),(.str []),(.str []),(.str []),(.str []),(.str []),(.str []),(.str []),(.str []),(.str []),(.str []),(.str []),(.str []),(.str []),(.str []),(.str []),(.str [])] 19 113
 |184=> .fu
 |185=> .im .u64
 |189=> .gr [] []
 |194=> .pt
 |196=> .gr [.nilptr,(.slice true [] [])] [(0,194),(1,108)]
 |223=> .fu
 |225=> .pt
 |227=> .gr [(.bool false),(.int .i64 0),(.str []),(.slice true [] []),(.slice true [] []),(.int .u8 0),(.str []),(.str []),(.str []),(.int .i64 0),(.int .i64 0),(.bool false),(.slice true [] []),(.str []),(.slice true [] []),(.str []),(.slice true [] []),(.slice true [] []),(.slice true [] []),(.slice true [] []),(.slice true [] []),(.str []),(.bool false),(.str []),(.slice true [] []),(.bool false),(.int .i64 0),(.str []),(.slice true [] []),(.slice true [] [])] [(0,33),(5,49),(16,163),(21,100)]
 |259=> .fu
 |268=> .im .u32
 |313=> .fu
 |314=> .sl 26 1 24
 |336=> .fu
 |338=> .sl 160 1 24
 |340=> .sl 161 1 24
 |343=> .fu
 |346=> .im .i64
 |354=> .sl 29 1 24
 |356=> .ar [(.slice true [] []),(.slice true [] [])] 2 47
 |363=> .fu
 |_=> .un
def Tz.z:Tz->List D
 | .bo=>[.bool false]
 | .st=>[.str []]
 | .pt=>[.nilptr]
 | .fu=>[.nilFunc]
 | .nf=>[.nilIface]
 | .mp=>[.nilMap]
 | .un=>[]
 | .im k=>[.int k 0]
 | .sl _ _ _=>[.slice true [] []]
 | .gr zs _=>zs
 | .ar zs _ _=>zs
def Tz.k:Tz->Option Nat
 | .gr zs _=>some zs.length
 | .ar zs _ _=>some zs.length
 |_=>none
def Tz.d(t:Tz):D:=match t with
 | .gr zs _=> .agg zs
 | .ar zs _ _=> .agg zs
 |t=>t.z.headD .junk
def Tz.n(t:Tz):Nat:=t.z.length
def tA:Operand->G9
 | .tmp t=> .t t
 | .const v=> .c ((ofVal v).getD .junk)
 | .func f=> .c (.fn f [])
 | .global _=> .t 0
def lk{α:Type}(d:α)(k:Nat):List (Nat×α)->α
 |[]=>d
 |(j,x)::r=>if j=k then x else lk d k r
def fAt(t:Tz)(f:Nat):Nat×Nat:=match t with
 | .gr _ fs=>fs.getD f (0,0)
 |_=>(0,0)
def Tt:List (Nat×Nat)->List (Nat×Nat)
 |[]=>[]
 |(o,t)::r=>(match zT t with
  | .im _=>[(0,o)]
  | .bo=>[(1,o)]
  | .st=>[(2,o)]
  | .gr _ fs=>fs.map λp=>((match zT p.2 with| .im _=>0| .bo=>1|_=>2),o+p.1)
  |_=>[])++Tt r
def tE(ne:Bool)(t:Tz)(a b:G9):DOp:=match t with
 | .bo=> .beq ne a b
 | .im _=> .bin (if ne=true then .neq else .eql) a b
 | .st=> .bin (if ne=true then .neq else .eql) a b
 | .gr _ fs=> .seq ne (Tt fs) a b
 | .sl _ _ _=> .nileq ne 0 a b
 | .pt=> .nileq ne 1 a b
 | .fu=> .nileq ne 3 a b
 | .nf=> .nileq ne 2 a b
 |_=> .stop
def tB(o:BinOp)(t:Tz)(a b:G9):DOp:=match o with
 | .eql=>tE false t a b
 | .neq=>tE true t a b
 |o=> .bin o a b
def tC(s t:Tz)(x:G9):DOp:=match s,t with
 | .im _,.im k=> .conv k x
 | .st,.st=> .s2s x
 | .st,.sl _ _ _=> .s2b x
 | .sl _ _ _,.st=> .b2s x
 |_,_=> .stop
def tX(t:Tz)(x i:G9):DOp:=match t with
 | .sl _ s _=> .iaddr s x i
 | .ar _ n e=> .iadda n (zT e).n x i
 |_=> .stop
def tI(t:Tz)(x i:G9):DOp:=match t with
 | .st=> .idxs x i
 | .ar _ n e=>(match (zT e).k with
  |none=> .idxa n x i
  |some s=> .idxm n s x i)
 |_=> .stop
def tS(t:Tz)(x:G9)(l h:Option G9):DOp:=match t with
 | .st=> .cuts x l h
 | .sl _ s _=> .cutl s x l h
 |_=> .stop
def tP(t:Tz)(l:List (Nat×Operand)):DOp:=match t with
 | .gr zs fs=> .build zs (l.map λp=>((fs.getD p.1 (0,0)).1,(zT (fs.getD p.1 (0,0)).2).n,tA p.2))
 | .ar zs _ e=> .build zs (l.map λp=>(p.1*(zT e).n,(zT e).n,tA p.2))
 |_=> .stop
def tG(t:Tz)(l:List (Nat×Operand)):DOp:=match t with
 | .sl e s _=> .bslice e s (l.map λp=>tA p.2)
 |_=> .stop
def tM(t:Tz)(n c:G9):DOp:=match t with
 | .sl e s b=> .mksl e s b (zT e).d n c
 |_=> .stop
def tL(c:Callee)(xs:List Operand)(ts:List Nat):DOp:=match c with
 | .value f=> .call (tA f) (xs.map tA)
 | .builtin .len=>(match xs,ts with
  |[x],[t]=>(match zT t with| .st=> .len true (tA x)|_=> .len false (tA x))
  |_,_=> .stop)
 | .builtin .append=>(match xs,ts with
  |[x,y],[t,_]=>(match zT t with| .sl e s b=> .app e s b (tA x) (tA y)|_=> .stop)
  |_,_=> .stop)
 | .builtin .max=>(match xs with|[x,y]=> .mxm true (tA x) (tA y)|_=> .stop)
 | .builtin .min=>(match xs with|[x,y]=> .mxm false (tA x) (tA y)|_=> .stop)
 |_=> .stop
def tO:Op->DOp
 | .move x=> .mv (tA x)
 | .assign x=> .mv (tA x)
 | .pick c a b=> .pick (tA c) (tA a) (tA b)
 | .alloc t=> .alloc (zT t).z
 | .box _ x=> .box (tA x)
 | .build t l=>tP (zT t) l.toList
 | .buildSlice t _ l=>tG (zT t) l.toList
 | .load t x=> .load (zT t).k (tA x)
 | .store t x v=> .store (zT t).n (tA x) (tA v)
 | .nilCheck x=> .nilchk (tA x)
 | .binOp o t x y _=>tB o (zT t) (tA x) (tA y)
 | .unOp o _ x=> .un o (tA x)
 | .convert s t x=>tC (zT s) (zT t) (tA x)
 | .fieldAddr t x f=> .faddr (fAt (zT t) f).1 (tA x)
 | .field t x f=> .field (zT (fAt (zT t) f).2).k (fAt (zT t) f).1 (tA x)
 | .indexAddr t x i=>tX (zT t) (tA x) (tA i)
 | .index t x i=>tI (zT t) (tA x) (tA i)
 | .slice t x l h _=>tS (zT t) (tA x) (l.map tA) (h.map tA)
 | .makeInterface t x=> .mkif t (tA x)
 | .typeAssert x _ t ok=> .tass t ok (zT t).d (tA x)
 | .extract x i=> .ext i (tA x)
 | .makeSlice t n c=>tM (zT t) (tA n) (tA c)
 | .range _ x=> .range (tA x)
 | .next x _=> .next (tA x)
 | .makeFunc (.func f) _ l=> .mkfn f (l.toList.map tA)
 | .call c=>tL c.callee c.args.toList c.argTypes.toList
 |_=> .stop
def tR(o:Oper):DOper:=⟨o.dst,tO o.op,[],o.guard⟩
def wF:Code->Nat
 | .region i _ _=>i
 | .seq a _=>wF a
 | .block _ a=>wF a
 | .loop a=>wF a
 |_=>0
def cU(k:Nat):Code->Option Code
 | .seq a b=>(cU k a).or (cU k b)
 | .cond _ a b=>(cU k a).or (cU k b)
 | .block _ a=>cU k a
 | .loop a=>if wF a=k then some a else cU k a
 |_=>none
def tQ(ps:List (Nat×List (Nat×Nat)))(ls:List (Nat×DC)):Code->DC
 | .skip=> .skip
 | .ret=> .ret
 | .exit i=> .exit i
 | .region i ops false=> .row (ops.toList.map tR)
 | .region i ops true=> .drawn (ops.toList.map tR) (lk [] i ps)
 | .seq a b=> .seq (tQ ps ls a) (tQ ps ls b)
 | .cond c a b=> .cond (tA c) (tQ ps ls a) (tQ ps ls b)
 | .block i c=> .block i (tQ ps ls c)
 | .loop c=> .loop (lk .skip (wF c) ls)
 |_=> .skip
def tAi(k i):tA (.const (.int k i))= .c (.int k i):=rfl
def tAb(b):tA (.const (.bool b))= .c (.bool b):=rfl
def tAs(s):tA (.const (.string s))= .c (.str s.data.toList):=rfl
def tAl:tA (.const (.slice none 0 0))= .c (.slice true [] []):=rfl
def tAp:tA (.const (.pointer none))= .c .nilptr:=rfl
def tAn:tA (.const .nilIface)= .c .nilIface:=rfl
def tAu:tA (.const .nilFunc)= .c .nilFunc:=rfl
def tAg(l):tA (.const (.agg l))= .c ((ofVal (.agg l)).getD .junk):=rfl
def tAt(t):tA (.tmp t)= .t t:=rfl
def tAf(f):tA (.func f)= .c (.fn f []):=rfl
def bAt(f:Func):Code:=f.body.getD .skip
abbrev y0(f:Func)(ps:List (Nat×List (Nat×Nat)))(ls:List (Nat×DC)){c:DC}(_:tQ ps ls (bAt f)=c:=by exact Eq.trans (by conv=>lhs;whnf) (by simp only[tQ,tR,tO,tAt,tAi,tAb,tAs,tAf,tAl,tAp,tAn,tAu,tAg,zT,Tz.k,Tz.z,Tz.n,Tz.d,tL,tP,tB,tE,tX,tS,tI,tG,tC,tM,fAt,Tt,lk,ofVal,List.getD_cons_zero,List.getD_cons_succ,List.map_cons,List.map_nil,List.length_cons,List.length_nil,List.headD_cons,List.cons_append,List.nil_append,Option.map_some,Option.map_none,Option.getD_some,Bool.false_eq_true,reduceIte,Nat.reduceAdd,Nat.reduceMul,Nat.reduceEqDiff]<;>rfl)):DC:=c
abbrev y1(f:Func)(k:Nat)(ps:List (Nat×List (Nat×Nat)))(ls:List (Nat×DC)){c:DC}(_:tQ ps ls ((cU k (bAt f)).getD .skip)=c:=by exact Eq.trans (by conv=>lhs;whnf) (by simp only[tQ,tR,tO,tAt,tAi,tAb,tAs,tAf,tAl,tAp,tAn,tAu,tAg,zT,Tz.k,Tz.z,Tz.n,Tz.d,tL,tP,tB,tE,tX,tS,tI,tG,tC,tM,fAt,Tt,lk,ofVal,List.getD_cons_zero,List.getD_cons_succ,List.map_cons,List.map_nil,List.length_cons,List.length_nil,List.headD_cons,List.cons_append,List.nil_append,Option.map_some,Option.map_none,Option.getD_some,Bool.false_eq_true,reduceIte,Nat.reduceAdd,Nat.reduceMul,Nat.reduceEqDiff]<;>rfl)):DC:=c
end Go.Vd
namespace Go.Vd
open Go.RowKit
structure rN (p:Id->Id):Prop where
 inv:∀i,p (p i)=i
 nil:p []=[]
def rN.inj{p:Id->Id}(h:rN p){i j:Id}(e:p i=p j):i=j:=by rw[←h.inv i,e,h.inv]
def rN.nn{p:Id->Id}(h:rN p){i:Id}(e:p i≠[]):i≠[]:=λhi=>e (by rw[hi,h.nil])
section
variable{P:Program}{S:GZ}{f:FuncId}{N:Nat}{dc:DC}{rs:List RV}
end
section
variable{P:Program}{f:FuncId}
end
def DS(e:Nat):HF where
 rd:=λ_ _=>[]
 ex:=λds _ fr=>match ds with
  |[.slice true _ [],.int .i64 k]=>if 0<k∧k<=1000000 then some (.slice false (0::fr) [],[(0::fr,0,[.tok (e+1)])])else none
  |_=>none
def ML {P:Program} {f:FuncId} {e sz:Nat} (ua:∃fn,P.funcs[f]?=some fn∧fn.body.isSome=true∧(fn.name== "runtime.NumGoroutine")=false) (x:0<sz)
  (hi:∃ti z,P.info? e=some ti∧ti.size=sz∧ti.zero=some z∧z.cells.size=sz)
  (b:∀(w:World)(k:Nat),0<k->k<=1000000->Calls P f #[.slice none 0 0,.int .i64 (k:Int)] w λev w'=>∃c cs,c<=maxLen∧cs.size=c*sz∧ev= .returned (.slice (some ⟨w.heap.size,0,none⟩) 0 c)∧w'=w.drew.alloc (.cells cs e)):(DS e).ok P f:=by
 refine⟨ua,λds m m' fr _=>rfl,?_⟩;intro B w0 w m g fr ds vs r u ka fa hl q y;simp only[DS]at y;split at y
 ·rename_i t k;split at y
  ·rename_i s;obtain⟨qa,hk⟩:=s;simp only[Qb,Qr]at y;obtain⟨rfl,rfl⟩:=y
   match vs,hl with
   |[v0,v1],_=>
    have sa:=q 0 _ v0 rfl rfl;have ta:=(q 1 _ v1 rfl rfl).int_inv;subst ta;have e0:v0= .slice none 0 0:=by
     rcases sa.slice_inv with ⟨_,_,e⟩|⟨h,_⟩
     ·exact e
     ·cases h
    subst e0;have ga:((k.toNat:Nat):Int)=k:=Int.toNat_of_nonneg O;have hw:=b w k.toNat O O;rw[ga]at hw;refine hw.mono ?_;rintro ev w' ⟨c,cs,fb,na,rfl,rfl⟩;have pa:=fa (0::fr) (QH 0 fr);have a:=(ka.drew).newTok pa (e:=e) (n:=0) (c:=c) (sz:=sz) (cur:=cs) x hi (QV _) fb na;have la:=(Ht.drew w g).trans (Ht.newTok (w:=w.drew) (t:=0::fr) (n:=0) (c:=c) (sz:=sz) (Obj.cells cs e) ka.drew.gz pa.2.2 rfl);refine⟨_,_,rfl,a,la,?_,λi hf o=>C0 hf (λh=>o ((QH 0 fr).trans h)) _ _ _ _ _⟩;exact aG (sz:=sz) (xs:=[]) (vs:=[]) (cur:=cs) (T:=e) (fz:=(0,0)) (heap_alloc_new w.drew _) rfl (QV _) (λd p=>by cases p) (AZ.nil _ _) (λj v hv=>by simp at hv) U (λ_=>Xm) (λd p=>by cases p)
  ·cases y
 ·cases y
def Fh:List D->Option (List D)
 |[]=>some []
 | .slice _ _ xs::r=>(Fh r).map (xs++·)
 |_=>none
def Vq:D->Bool
 | .str _=>true
 |_=>false
def oE:D->List UInt8
 | .str s=>s
 |_=>[]
def aHh{P:Program}{B:Nat}{w0 w k:World}{m:G6}{g:Gh}{e n:Nat}{v:Value}{xs:List D}(hi:He P B w0 m w g)(t:Below w.heap.size w k)(q:xs.all Vq=true)(o:n=xs.length)
  (ho:k.ownsRow w.heap.size e 1 v n (xs.map λd=>Value.string ⟨(oE d).toArray⟩)) (i:v≠ .slice none 0 0):Rep k (g.over w k) (.slice false [] xs) v:=by
 obtain⟨u,f⟩:=ho;rcases f with ⟨f,_⟩|⟨b,cap,cur,rfl,y,hh,za,fb,ja,z⟩
 ·exact absurd f i
 ·have c:∀d∈xs,d.cells.length=1∧d.calm=true:=by
   intro d p;have:=Qs.1 q d p;unfold Vq at this;split at this
   ·exact Y4
   ·cases this
  have ra:AZ k (g.over w k) (flat xs) (xs.map λd=>Value.string ⟨(oE d).toArray⟩):=by
   clear o u z i;induction xs with
   |nil=>exact AZ.nil _ _
   |cons x r ih=>
    simp only[ZI,Q3]at q;have a:=ih q.2 (λd p=>c d (Q1 _ p))
    match x,q.1 with
    | .str s,_=>exact AZ.append (AZ.one (.str s) rfl) a
  refine aG (sz:=1) (vs:=xs.map λd=>Value.string ⟨(oE d).toArray⟩) hh o za (λd p=>(c d p).1) ra (λj v i=>?_) ?_ (λh=>absurd rfl h) (λd p=>(c d p).2)
  ·grind
  ·grind [Gh.over]
mutual
def D.off(i:Id):D->Bool
 | .ptr j _=>j !=i
 | .row j _=>j !=i
 | .agg cs=>aU i cs
 | .tup cs=>aU i cs
 | .fn _ cs=>aU i cs
 |_=>true
def aU(i:Id):List D->Bool
 |[]=>true
 |d::r=>D.off i d&&aU i r
end
def IE{i:Id}:∀{l:List D},aU i l=true↔∀d∈l,d.off i=true
 |[]=>by simp[aU]
 |d::r=>by simp only[aU,Q3,IE,Zm,forall_eq_or_imp]
def U9{i:Id}{w:World}{g:Gh}{ds:List D}{vs:List Value}(hl:vs.length=ds.length)(h:∀(j:Nat) d v,ds[j]?=some d->vs[j]?=some v->d.off i=true):aU i ds=true:=by
 rw[IE];intro d p;obtain⟨j,e,rfl⟩:=QW p;exact h j _ vs[j] (Qc e) (Qc O)
def Rep.off{w:World}{g:Gh}{i:Id}(hi:g.dl i=none){d:D}{v:Value}(h:Rep w g d v):d.off i=true:=by
 induction h with
 |ptr j o b u=>
  simp only[D.off,bne_iff_ne,ne_eq];rintro rfl;rw[hi]at u;cases u
 |row j n c b z u=>
  simp only[D.off,bne_iff_ne,ne_eq];rintro rfl;rw[hi]at u;cases u
 |agg ds vs u y x ih=>simp only[D.off];exact U9 (w:=w) (g:=g) u ih
 |tup ds vs u y ih=>simp only[D.off];exact U9 (w:=w) (g:=g) u ih
 |fn f ds vs u y ih=>simp only[D.off];exact U9 (w:=w) (g:=g) u ih
 |_=>rfl
def Rep.drop{w:World}{g g':Gh}{i:Id}(ia:∀j b,j≠i->g.dl j=some b->g'.dl j=some b)(hG:∀b,g.G b<=g'.G b)(u:∀j x,g.tb j=some x->g'.tb j=some x){d:D}{v:Value}(h:Rep w g d v)(ho:d.off i=true):Rep w g' d v:=by
 have calm:∀{d:D} {v:Value},Rep w g d v->d.calm=true->Rep w g' d v:=λh m=>h.calm_to m (λ_ _=>rfl) hG
 have cf:∀{xs:List D},(∀d∈xs,d.calm=true)->∀d∈flat xs,d.calm=true:=λh9 d p=>by
  have:=N1 h9 d p
  first|exact this|(cases d<;>simp_all [D.calm,D.calm1])
 induction h with
 |junk v=>exact .junk v
 |bool b=>exact .bool b
 |int k n=>exact .int k n
 |str s=>exact .str s
 |nils t=>exact .nils _
 |slice t xs a n c sz vv q y h3 e h5 h6 h7 h8 h9 ih=>
  refine .slice t xs a n c sz vv q y h3 e h5 (λj d p=>calm (h6 j d p) (cf h9 d (Qp p))) (λh=>QP (h7 h) (hG _)) (λht=>?_) h9;obtain⟨q1,q2,q3⟩:=h8 ht;exact⟨q1,q2,u _ _ q3⟩
 |ptr j o b q=>exact .ptr j o b (ia j b (by simpa[D.off]using ho) q)
 |row j n c b z q=>exact .row j n c b z (ia j b (by simpa[D.off]using ho) q)
 |eptr ds a vv q y h3 e h5=>exact .eptr ds a vv q y (λj d p=>calm (h3 j d p) (h5 d (Qp p))) (λh=>QP (e h) (hG _)) h5
 |nilp=>exact .nilp
 |agg ds vs q y h3 ih=>
  simp only[D.off,IE]at ho;exact .agg _ vs q y (λj d v p r=>ih j d v p r (ho d (Qp p)))
 |tup ds vs q y ih=>
  simp only[D.off,IE]at ho;exact .tup _ vs q (λj d v p r=>ih j d v p r (ho d (Qp p)))
 |iface t d v q y ih=>exact .iface t d v q (calm y q)
 |nili=>exact .nili
 |fn f ds vs q y ih=>
  simp only[D.off,IE]at ho;exact .fn f _ vs q (λj d v p r=>ih j d v p r (ho d (Qp p)))
 |nilf=>exact .nilf
 |nilm=>exact .nilm
 |itp j b q=>exact .itp j b (u _ _ q)
def aD7{i:Id}{d:D}(h:d.calm1=true):d.off i=true:=by
 cases d with
 |fn f cs=>
  have:cs=[]:=by simpa[D.calm1]using h
  subst this;rfl
 |_=>first|rfl|(simp[D.calm1]at h;done)
def nT:∀{u:Ha} {m:G6} {i:Id} {o:Nat} {d:D},(∀p∈u,∀x∈p.2.2,x.calm1=true)->Ha.app m u i o=some d->d.calm1=true∨m i o=some d
 |[],m,i,o,d,_,h=> .inr h
 |(j,k,ds)::u,m,i,o,d,hu,h=>by
  rcases nT (u:=u) (λp c=>hu p (Q1 _ c)) h with h1|h1
  ·exact .inl h1
  ·by_cases w:i=j∧k<=o∧o<k+ds.length
   ·left;have:m.put j k ds i o=ds[o-k]?:=by unfold G6.put;rw[if_pos w]
    rw[this]at h1;exact hu _ (Q5 ..) d (Qp h1)
   ·grind [G6.put]
def nS:∀{u:Ha} {m:G6} {i:Id} {o:Nat},(∀p∈u,p.1≠i)->Ha.app m u i o=m i o
 |[],m,i,o,_=>rfl
 |(j,k,ds)::u,m,i,o,hu=>by
  have q:=nS (u:=u) (m:=m.put j k ds) (i:=i) (o:=o) (λp c=>hu p (Q1 _ c));have f:i≠j:=λe=>hu _ (Q5 ..) e.symm
  exact q.trans (aA f)
def qF:∀{xs:List D},(∀x∈xs,x.cells=[x])->flat xs=xs
 |[],_=>rfl
 |x::r,h=>by
  rw[flat,h x (Q5 ..),qF λy j=>h y (Q1 _ j)];rfl
section
variable{P:Program}{B:Nat}{w0 w:World}{m:G6}{g:Gh}{S:GZ}{f:FuncId}{N:Nat}{dc:DC}{rs:List RV}
def Gh.settle(g:Gh)(i:Id)(b n:Nat):Gh:={g with dl:=λj=>if j=i then none else g.dl j,G:=λp=>if p=b then n else g.G p}
theorem aHs (hS : GZ.ok P S) (hf : Fn P f N dc rs) {q : HF} (ea : ∀ ds m m' fr, (∀ l ∈ q.rd ds m, m l.1 l.2 = m' l.1 l.2) → q.ex ds m fr = q.ex ds m' fr)
  (hq : ∀ ds m fr r u, q.ex ds m fr = some (r, u) → (∀ i o, fr <:+ i → m i o = none) → ds.length ≤ N ∧ (∀ p ∈ u, ¬ fr <:+ p.1 ∧ ∀ x ∈ p.2.2, x.calm1 = true) ∧ ∃ xs, r = .slice false [] xs ∧ (∀ x ∈ xs, x.calm = true ∧ x.cells = [x]) ∧
   dc.wp S fr (Ee rs fun d m' => ∃ i, d = .row i xs.length ∧ fr <:+ i ∧ (∀ (j : Nat) x, xs[j]? = some x → m' i j = some x) ∧ ∀ i o x, Ha.app m u i o = some x → m' i o = some x) ⟨BL ds, m, 0⟩) : q.ok P f := by
 obtain ⟨fn, ba, h1, h2, h3, h4, h5, h6⟩ := hf.is
 refine ⟨⟨fn, h1, by rw [h2]; rfl, h3⟩, ea, ?_⟩
 intro B w0 w m g fr ds vs r u hi fa hl da aa
 have ca : ∀ k i, (k :: fr) <:+ i → B1 m g i := fun k i h => fa i ((QH k fr).trans h)
 obtain ⟨hN, hu, xs, rfl, eb, za⟩ := hq ds m fr r u aa (fun i o h => (fa i h).1 o)
 have oa := Gy (ns := fr) hS hf hN hi ca hl da za
 refine oa.mono ?_
 rintro e w' ⟨v, d, m', g', rfl, ka, la, t, ya, i, rfl, fb, ha, qa⟩
 obtain ⟨b, cap, rfl, ma, hb⟩ := ya.row_inv
 obtain ⟨kb, mb, cur, T, a, ta⟩ := ka.obj i b hb
 have ua : g.dl i = none := (fa i fb).2.1
 have y : ∀ b', g'.G b' ≤ (g'.settle i b xs.length).G b' := by
  grind [Gh.settle]
 have gb : ∀ {d : D} {v : Value}, Rep w' g' d v → d.off i = true → Rep w' (g'.settle i b xs.length) d v := fun h ho =>
  h.drop (i := i) (fun j b' hj e => by simp only [Gh.settle]; rw [if_neg hj]; exact e) y (fun _ _ e => e) ho
 have base := ka.less qa
 have z : ∀ o, Ha.app m u i o = none := fun o => by
  rw [nS (fun p hp e => (hu p hp).1 (e ▸ fb))]; exact (fa i fb).1 o
 have db : ∀ j o d, Ha.app m u j o = some d → d.off i = true := by
  intro j o d hd
  rcases nT (fun p hp => (hu p hp).2) hd with h | h
  ·exact aD7 h
  ·cases hdl : g.dl j with
   | none =>
    have hk := hi.kind j o d h hdl
    cases d <;> first | rfl | cases hk
   | some b' =>
    obtain ⟨_, _, bb, _, _, hr⟩ := hi.obj j b' hdl
    obtain ⟨v', _, _, jb⟩ := hr o d h
    exact jb.off ua
 have ib : He P B w0 (Ha.app m u) w' (g'.settle i b xs.length) := by
  refine ⟨ka.below, ka.size, fun b' va => ?_, fun b' va => ?_, fun j b' hj => ?_, fun j j' b' e1 e2 => ?_, fun j o d hm hn => ?_, fun j e hm => ?_, base.tinj, base.itr.to (fun _ _ _ e => e) fun j b1 s p _ _ _ e1 e2 e3 => ?_⟩
  rotate_right
  ·have lb : b1 ≠ b := fun e' => e3 i (e' ▸ hb)
   refine ⟨rfl, rfl, by simp only [Gh.settle]; rw [if_neg lb]; exact e2, fun i' h' => ?_⟩
   simp only [Gh.settle] at h'
   split at h'
   ·cases h'
   ·exact e3 i' h'
  ·simp only [Gh.settle]
   have : b < w'.heap.size := (QF.1 a).1
   rw [if_neg O]; exact ka.gz b' va
  ·simp only [Gh.settle]; rw [if_neg O]; exact ka.old b' va
  ·simp only [Gh.settle] at hj
   split at hj
   ·cases hj
   ·rename_i ga
    obtain ⟨p, q, bb, T', hh, r⟩ := base.obj j b' hj
    have lb : b' ≠ b := fun e => ga (ka.inj j i b (e ▸ hj) hb)
    refine ⟨p, by simp only [Gh.settle]; rw [if_neg lb]; exact q, bb, T', hh, fun o d hm => ?_⟩
    obtain ⟨v', r1, r2, r3⟩ := r o d hm
    exact ⟨v', r1, r2, gb r3 (db j o d hm)⟩
  ·simp only [Gh.settle] at e1 e2
   split at e1
   ·cases e1
   ·split at e2
    ·cases e2
    ·exact ka.inj j j' b' e1 e2
  ·by_cases cb : j = i
   ·subst cb; rw [z o] at hm; cases hm
   ·simp only [Gh.settle, if_neg cb] at hn
    exact base.kind j o d hm hn
  ·obtain ⟨b1, n, c, sz, na, t1, t2, t3, t4, t5, t6, t7, t8, t9, xa⟩ := base.tok j e hm
   have lb : b1 ≠ b := fun e' => xa i (e' ▸ hb)
   refine ⟨b1, n, c, sz, na, t1, t2, t3, t4, t5, t6, t7, t8, by simp only [Gh.settle]; rw [if_neg lb]; exact t9, fun i' h' => ?_⟩
   simp only [Gh.settle] at h'
   split at h'
   ·cases h'
   ·exact xa i' h'
 have ab : ∀ (j : Nat), j < xs.length → ∃ v, cur[j]? = some v ∧ v.oneCell' = true ∧ ∃ x, xs[j]? = some x ∧ Rep w' g' x v := by
  intro j hj
  obtain ⟨v', r1, r2, r3⟩ := ta j xs[j] (ha j _ (Qc hj))
  exact ⟨v', r1, r2, _, Qc hj, r3⟩
 have ja : xs.length ≤ cur.size := by
  rcases Zu xs.length with h | h
  ·omega
  ·obtain ⟨v', r1, _⟩ := ab (xs.length - 1) O
   have := (QF.1 r1).1
   omega
 have ia : ∀ x ∈ xs, x.calm = true := fun x hx => (eb x hx).1
 have wa : flat xs = xs := qF fun x hx => (eb x hx).2
 have ra : AZ w' (g'.settle i b xs.length) (flat xs) (cur.toList.take xs.length) := by
  rw [wa]
  refine ⟨by simp; omega, fun v hv => ?_, fun j x v hx hv => ?_⟩
  ·obtain ⟨j, hj, rfl⟩ := QW hv
   have sa : j < xs.length := Zj hj (Zh _ _)
   obtain ⟨v', r1, r2, _⟩ := ab j sa
   have : (cur.toList.take xs.length)[j]? = some v' := by rw [QJ sa]; simpa using r1
   rw [Qc hj] at this
   rw [QE this]; exact r2
  ·have sa : j < xs.length := (Qo.1 hx).1
   obtain ⟨v', r1, r2, x', pa, r3⟩ := ab j sa
   rw [hx] at pa; obtain rfl := QE pa
   have : (cur.toList.take xs.length)[j]? = some v' := by rw [QJ sa]; simpa using r1
   rw [hv] at this; obtain rfl := QE this
   exact r3.calm_to (ia x (Qp hx)) (fun _ _ => rfl) y
 refine ⟨_, g'.settle i b xs.length, rfl, ib, ⟨la.cell, fun b' => QP (la.G b') (y b'), fun j b' hj => ?_, la.G0, la.tb⟩, ?_, fun j hf hn => ?_⟩
 ·simp only [Gh.settle]
  rw [if_neg (fun e => by rw [e, ua] at hj; cases hj)]; exact la.dl j b' hj
 ·refine aG (sz := 1) (cur := cur) (vs := cur.toList.take xs.length) a rfl ma (fun d hd => by rw [(eb d hd).2]; rfl) ra (fun j v hv => ?_) (by simp [Gh.settle]) (fun h => absurd rfl h) ia
  have hj : j < xs.length := Zj (Qo.1 hv).1 (Zh _ _)
  rw [QJ hj] at hv
  simpa using hv
 ·obtain ⟨k1, k2, k3⟩ := t j hf hn
  refine ⟨fun o => ?_, ?_, k3⟩
  ·cases hx : Ha.app m u j o with
   | none => rfl
   | some x => exact absurd (k1 o) (by rw [qa j o x hx]; simp)
  ·simp only [Gh.settle]
   split
   ·rfl
   ·exact k2
end
end Go.Vd
namespace Go.Vd
open Go.Proofs Go.RowKit
def aLS:=y0 f322 [] []
def O6:=y1 f294 5 [] []
def aLW:=y0 f294 [] [(5,O6)]
def O7:=y1 f242 3 [] []
def aL5:=y0 f242 [] [(3,O7)]
def aMw:=y0 f174 [] []
def aNh:=y0 f107 [] []
abbrev Kq(F:List D->Option D)(n:Nat):=(Ac F).ok Qg n
def A6{P:Program}:GZ.ok P (λ_=>none):=λf q h=>Xc
def E7(c:Int):Bool:=decide (97<=c∧c<=122)||decide (65<=c∧c<=90)||decide (48<=c∧c<=57)||decide (c=45)||decide (c=46)||decide (c=95)||decide (192<=c∧c<=55295)
def aF1:List D->Option D
 |[.int .i32 c]=>some (.bool (E7 c))
 |_=>none
def aTs:Kq aF1 322:=by
 refine AM (S:=λ_=>none) A6 (Ai func322:Fn Qg 322 35 aLS [.t 2]) (λds r h=>?_) (λds r h=>?_)
 ·unfold aF1 at h;split at h
  ·simp
  ·cases h
 ·unfold aF1 at h;split at h
  ·rename_i c;simp only[Qb]at h;subst h;unfold aLS;simp only[↓C2,G8,simprocAttr]
   repeat' (first|(refine aF (λh=>?_) (λh=>?_)<;>try (exfalso;omega))|(simp only[↓C2,G_,simprocAttr, *]))
   all_goals (rw[D.bool.injEq,Bool.eq_iff_iff];simp[E7];try omega)
  ·cases h
theorem Hu{x:Int}(u:-9223372036854775808<=x)(f:x<9223372036854775808):IntKind.i64.wrap x=x:=IntWalk.i64_in _ ⟨u,O⟩
def wJ{j:Nat}(h:j<4611686018427387904):IntKind.i64.wrap ((j:Int)+1)=((j+1:Nat):Int):=Hu O O
def nJ{j:Nat}:(0:Int)<=(j:Int):=O
abbrev Bs:=List UInt8
def Ho(s:Bs)(i:Nat):Nat:=(s.getD i 0).toNat
theorem R0(s:Bs)(i:Nat):Ho s i<256:=UInt8.toNat_lt _
def Ej(s:Bs)(i:Nat):Bool:=decide (i<s.length)&&decide (128<=Ho s i)&&decide (Ho s i<192)
def Ao:List (FuncId×HF)->GZ
 |[],_=>none
 |(k,q)::r,f=>if f=k then some q else Ao r f
def Bp{P:Program}{l:List (FuncId×HF)}(h:GZ.ok P (Ao l)):∃S:GZ,GZ.ok P S∧∀f q,Ao l f=some q->S f=some q:=⟨_,h,λ_ _ e=>e⟩
def Ad{P:Program}:GZ.ok P (Ao []):=λf q h=>Xc
def Aa{P:Program}{k:FuncId}{q:HF}{r:List (FuncId×HF)}(h:q.ok P k)(i:GZ.ok P (Ao r)):GZ.ok P (Ao ((k,q)::r)):=λf w e=>by
 simp only[Ao]at e;split at e
 ·simp_all
 ·exact i f w e
def Gf(s:Bs)(i:Nat):Int×Nat:=
 let b:=Ho s i
 if b<128 then(b,1)
 else if 192<=b∧b<224∧Ej s (i+1)=true∧128<=64*((b:Int)-192)+(Ho s (i+1)-128)then(64*((b:Int)-192)+(Ho s (i+1)-128),2)
 else if 224<=b∧b<240∧Ej s (i+1)=true∧Ej s (i+2)=true∧2048<=4096*((b:Int)-224)+64*(Ho s (i+1)-128)+(Ho s (i+2)-128)∧
   (4096*((b:Int)-224)+64*(Ho s (i+1)-128)+(Ho s (i+2)-128)<55296∨57343<4096*((b:Int)-224)+64*(Ho s (i+1)-128)+(Ho s (i+2)-128))then
  (4096*((b:Int)-224)+64*(Ho s (i+1)-128)+(Ho s (i+2)-128),3)
 else if 240<=b∧b<248∧Ej s (i+1)=true∧Ej s (i+2)=true∧Ej s (i+3)=true∧65536<=262144*((b:Int)-240)+4096*(Ho s (i+1)-128)+64*(Ho s (i+2)-128)+(Ho s (i+3)-128)∧
   262144*((b:Int)-240)+4096*(Ho s (i+1)-128)+64*(Ho s (i+2)-128)+(Ho s (i+3)-128)<=1114111 then
  (262144*((b:Int)-240)+4096*(Ho s (i+1)-128)+64*(Ho s (i+2)-128)+(Ho s (i+3)-128),4)
 else(-1,1)
theorem FZ{s:Bs}{i:Nat}:Ej s i=true↔i<s.length∧128<=Ho s i∧Ho s i<192:=by simp[Ej,and_assoc]
def NQ(s:Bs)(i:Nat):((ByteArray.mk s.toArray).get! i).toNat=Ho s i:=by
 have:(ByteArray.mk s.toArray).get! i=s.toArray[i]!:=rfl;rw[this];unfold Ho;by_cases h:i<s.length
 ·simp[h]
 ·simp[h];rfl
def aG0(s:Bs):(ByteArray.mk s.toArray).size=s.length:=X0
def aC0(s:Bs)(i:Nat)(hi:i<s.length):(Utf8.decode ⟨s.toArray⟩ i).2=(Gf s i).2∧E7 ((Utf8.decode ⟨s.toArray⟩ i).1:Nat)=E7 (Gf s i).1:=by
 have f:=R0 s i;have u:=R0 s (i+1);have m:=R0 s (i+2);have g:=R0 s (i+3);have q:(decide (i+1<s.length)&&(Ho s (i+1) / 64==2))=Ej s (i+1):=by
  grind [Ej]
 have e:(decide (i+2<s.length)&&(Ho s (i+2) / 64==2))=Ej s (i+2):=by
  grind [Ej]
 have v:(decide (i+3<s.length)&&(Ho s (i+3) / 64==2))=Ej s (i+3):=by
  grind [Ej]
 have c1:=@FZ s (i+1);have p:=@FZ s (i+2);have o:=@FZ s (i+3);unfold Utf8.decode Gf;simp only[NQ,aG0,Q8,q,e,v];generalize Ej s (i+1)=r at *;generalize Ej s (i+2)=n at *;generalize Ej s (i+3)=x at *;generalize Ho s i=b at *;generalize Ho s (i+1)=j at *;generalize Ho s (i+2)=z at *;generalize Ho s (i+3)=a at *;clear q e v;have w:E7 ((Utf8.runeError:Nat):Int)=E7 (-1):=V
 have y:∀c:Nat,Utf8.valid (c:Int)=true↔(c<55296∨(57344<=c∧c<=1114111)):=by
  intro c;simp[Utf8.valid];omega
 have k:(b / 32==6)=decide (192<=b∧b<224):=Yq
 have d:(b / 16==14)=decide (224<=b∧b<240):=Yq
 have t:(b / 8==30)=decide (240<=b∧b<248):=Yq
 simp only[k,d,t,Q3,decide_eq_true_eq,y,ge_iff_le];clear k d t y;cases r<;>cases n<;>cases x<;>simp only[QR,and_false,false_and,if_false,and_true,true_and,false_iff,true_iff]at c1 p o ⊢
 all_goals (repeat' split)<;>first|exact⟨rfl,w⟩|exact⟨rfl,rfl⟩|(exfalso;omega)|(refine⟨rfl,?_⟩;congr 1;omega)
def aHB(s:Bs)(i:Nat)(hi:i<s.length):1<=(Gf s i).2∧i+(Gf s i).2<=s.length:=by
 grind [Gf,FZ]
def Ez(s:Bs):Nat->Nat->Nat->Int
 |0,_,n=>if 12<n then 5 else 0
 |f+1,p,n=>if p<s.length then(if E7 (Gf s p).1=true then Ez s f (p+(Gf s p).2) (n+1)else 4)else if 12<n then 5 else 0
def Gb(s:Bs):Int:=if s=[]∨s=[46]∨s=[46,46]∨s=[45]then 4 else Ez s s.length 0 0
def aF2:List D->Option D
 |[.str s]=>if s.length<=1000000 then some (.int .i64 (Gb s))else none
 |_=>none
def aHH{S:GZ}{ns i:Id}{s:Bs}{e:Int}{Q:Ex->St->Prop}(z:s.length<=1000000)(a:S 322=some (Ac aF1))
  (r:∀y,e=4->y.s 2= .int .i64 4->Q .ret y) (q:∀y (n:Nat),(if 12<n then(5:Int)else 0)=e->y.s 3= .int .i64 (n:Int)->Q (.exit 0) y):
  ∀(f p n:Nat) y g,s.length<=p+f->p<=s.length->n<=p->Ez s f p n=e->y.s 21= .itp i->y.m i 1=some (.it s p)->y.s 3= .int .i64 (n:Int)->Ba S ns O6 Q y g:=by
 intro f;induction f with
 |zero=>
  intro p n y g d c o v t j x;refine Af O6.eq_1 ?_;have:¬(p<s.length):=O
  simp only[↓C2,G8,Hj,simprocAttr,j,t,this];exact q _ n v YB
 |succ f ih=>
  intro p n y g d c o v t j x;refine Af O6.eq_1 ?_;unfold Ez at v;by_cases u:p<s.length
  ·rw[if_pos u]at v;obtain⟨n1,n2⟩:=aHB s p u;obtain⟨d1,d2⟩:=aC0 s p u;rw[←d1]at v n1 n2;rw[←d2]at v;have k:aF1 [.int .i32 ((Utf8.decode ⟨s.toArray⟩ p).1:Nat)]=some (.bool (E7 ((Utf8.decode ⟨s.toArray⟩ p).1:Nat))):=rfl;have b:IntKind.i64.wrap ((n:Int)+1)=((n+1:Nat):Int):=Hu O O;cases ho:E7 ((Utf8.decode ⟨s.toArray⟩ p).1:Nat)with
   |true=>
    rw[if_pos ho]at v;simp only[↓C2,G_,simprocAttr,j,t,x,u,Ab a,k,ho,b];exact ih _ _ _ _ O O O v t Yh rfl
   |false=>
    rw[if_neg (by rw[ho];simp)]at v;simp only[↓C2,G_,simprocAttr,j,t,u,Ab a,k,ho];exact r _ v.symm rfl
  ·rw[if_neg u]at v;simp only[↓C2,G8,Hj,simprocAttr,j,t,u];exact q _ n v YB
def aTt:Kq aF2 294:=by
 obtain⟨S,g,hl⟩:=Bp (Aa aTs Ad);have a:=hl 322 _ rfl;clear hl;refine AM (S:=S) g (Ai func294:Fn Qg 294 32 aLW [.t 2]) (λds r h=>?_) (λds r h=>?_)
 ·unfold aF2 at h;split at h
  ·simp
  ·cases h
 ·unfold aF2 at h;split at h
  ·rename_i s;split at h
   ·rename_i m;simp only[Qb]at h;subst h;unfold aLW Gb;by_cases j:s=[]∨s=[46]∨s=[46,46]∨s=[45]
    ·rw[if_pos j];rcases j with rfl|rfl|rfl|rfl<;>simp only[↓C2,G_,simprocAttr,Qk,show((45:UInt8)=46)=False by decide,and_false,and_self]
    ·rw[if_neg j];obtain⟨a1,z,o,i⟩:s≠[]∧s≠[46]∧s≠[46,46]∧s≠[45]:=by simp only[not_or]at j;exact j
     have b:(s=[])=False:=eq_false a1;have d:(s=[46])=False:=eq_false z;have c:(s=[46,46])=False:=eq_false o;have f:(s=[45])=False:=eq_false i;simp only[↓C2,G8,Hj,simprocAttr,b,d,c,f];refine aHH (e:=Ez s s.length 0 0) m a (λy u w=>?_) (λy n u w=>?_) s.length 0 0 _ _ O O O rfl rfl Yh rfl
     ·simp only[↓C2,G_,w,u]
     ·rw[←u];have c1:((12:Int)<(n:Int))=(12<n):=by simp only[eq_iff_iff];omega
      simp only[↓C2,G8,simprocAttr,w,c1];refine aF (λh=>?_) (λh=>?_)<;>simp only[↓C2,G_,simprocAttr,h]
   ·cases h
  ·cases h
end Go.Vd
namespace Go.Vd
open Go.RowKit
def splitC(q:UInt8):Bs->List Bs
 |[]=>[[]]
 |c::r=>if c=q then []::splitC q r else match splitC q r with
  |h::t=>(c::h)::t
  |[]=>[[c]]
theorem Ci{q:UInt8}:∀s,splitC q s≠[]
 |[]=>by simp[splitC]
 |c::r=>by
  unfold splitC;split
  ·simp
  ·split<;>simp
def split_word{q:UInt8}{w:Bs}(h:q∉w):∀s,splitC q (w++q::s)=w::splitC q s:=by
 induction w with
 |nil=>intro s;simp[splitC]
 |cons c r ih=>
  intro s;simp only[Zm,not_or]at h;simp only[Ze,splitC];rw[if_neg (λe=>h.1 e.symm),ih h.2]
def split_one{q:UInt8}{w:Bs}(h:q∉w):splitC q w=[w]:=by
 induction w with
 |nil=>rfl
 |cons c r ih=>
  simp only[Zm,not_or]at h;simp only[splitC];rw[if_neg (λe=>h.1 e.symm),ih h.2]
def Gw(m:G6)(c e:Nat)(nl:Bool)(t:Id):Prop:=nl=true∨∃j,t=[j]∧j<c∧m t 0=some (.tok (e+1))
def Gw.grow{m:G6}{c e c' x:Nat}{nl:Bool}{t:Id}{xs:List D}(h:Gw m c e nl t)(w:c<=c'):I6 (m.put [c'] 0 [.tok x]) e (.slice nl t xs):=by
 rcases h with h|⟨j,rfl,u,f⟩
 ·exact .inl h
 ·refine .inr ⟨?_,U⟩;rw[aA Xb];exact f
theorem Gw.new{m:G6}{c e c':Nat}{nl:Bool}{t:Id}{xs:List D}(w:c'<c):Gw (Ha.app m (Be e [c'] (.slice nl t xs))) c e false [c']:=by
 refine .inr ⟨c',rfl,w,?_⟩;cases nl<;>simp[Be,Ha.app,BC]
def Gw.more{m:G6}{c c' e:Nat}{nl:Bool}{t:Id}(h:Gw m c e nl t)(w:c<=c'):Gw m c' e nl t:=by
 rcases h with h|⟨j,u,f,i⟩
 ·exact .inl h
 ·exact .inr ⟨j,u,O,i⟩
def Gw.put{m:G6}{c e c' o:Nat}{nl:Bool}{t:Id}{ds:List D}(h:Gw m c e nl t)(w:c<=c':=by omega):Gw (m.put [c'] o ds) c e nl t:=by
 rcases h with h|⟨j,rfl,u,f⟩
 ·exact .inl h
 ·refine .inr ⟨j,rfl,u,?_⟩;rw[aA Xb];exact f
def GG:List D->Option (List Bs)
 |[]=>some []
 | .str s::r=>(GG r).map (s::·)
 |_=>none
def Ft:∀{xs:List D} {l:List Bs},GG xs=some l->xs=l.map .str
 |[],l,h=>by simp only[GG,Qb]at h;subst h;rfl
 |x::r,l,h=>by
  unfold GG at h;split at h
  ·rename_i z;cases z
  ·rename_i s q z;simp only[Qk]at z;obtain⟨rfl,rfl⟩:=z;rw[Qj]at h;obtain⟨t,u,rfl⟩:=h;rw[Ft u];rfl
  ·cases h
theorem GF:∀l:List Bs,GG (l.map .str)=some l
 |[]=>rfl
 |i::r=>by simp only[Q0,GG];rw[GF r];rfl
def WP:∀l:List Bs,(l.map D.str).all Vq=true
 |[]=>rfl
 |w::r=>by
  show(Vq (.str w)&&_)=true;rw[WP r];rfl
end Go.Vd
namespace Go.Proofs
open Go.Shelf Go.RowKit Go.Lib
variable{P:Program}{ρ:Ren}
def LI{c:UInt8}{r:List UInt8}:∀{w:List UInt8},c∉w->Lib.indexByte (w++c::r) c=w.length
 |[],_=>by simp[Lib.indexByte]
 |b::w,h=>by
  simp only[Zm,not_or]at h;have ih:=LI (r:=r) h.2;have m:(b==c)=false:=beq_eq_false_iff_ne.2 (λe=>h.1 e.symm);have u:((w.length:Int)==-1)=false:=beq_eq_false_iff_ne.2 O;rw[Ze,Lib.indexByte,m,ih,u];simp
def splitK_eq(q:UInt8):∀(n:Nat)(s:List UInt8),s.length<=n->Lib.splitK [q] 0 (s.count q) s=Go.Vd.splitC q s:=by
 intro n;induction n with
 |zero=>intro s h;obtain rfl:s=[]:=Zo.1 O;rfl
 |succ n ih=>
  intro s h;by_cases j:q∈s
  ·obtain⟨w,r,rfl,t⟩:=List.eq_append_cons_of_mem j;have m:(w++q::r).count q=r.count q+1:=by rw[List.count_append,Zg t];simp
   have hi:Lib.index (w++q::r) [q]=w.length:=by rw[Lib.index_one];exact LI t
   have u:¬((w.length:Int)==-1)=true:=λe=>by have:=beq_iff_eq.1 e;omega
   rw[m,Lib.splitK,hi,if_neg u,Go.Vd.split_word t,Qi];have g:(w++q::r).take (w.length+0)=w:=U
   have v:(w++q::r).drop (w.length+[q].length)=r:=by
    simp_all
   rw[g,v,ih r (by simp at h;omega)]
  ·rw[Zg j,Go.Vd.split_one j];rfl
set_option maxHeartbeats 1000000 in
def split_space(q:UInt8)(L:Lays.n146 P ρ)(h:(P.info? (ρ.t 9)).map (λi=>(i.zero,i.size,i.bytes))=some (some (.string ByteArray.empty),1,16))(s:ByteArray)(w:World)(z:s.size<4294967281):
  Calls P (ρ.f 146) #[.string s,.string ⟨#[q]⟩] w λe k=>
   e= .returned (.slice (some ⟨w.heap.size,0,none⟩) (Lib.countB s ⟨#[q]⟩+1) (Lib.countB s ⟨#[q]⟩+1))∧k=w.alloc (.cells ((Lib.splitB ⟨#[q]⟩ 0 (Lib.countB s ⟨#[q]⟩) s).map Value.string).toArray (ρ.t 9)):=by
 have u:1<=(⟨#[q]⟩:ByteArray).size:=Qz 1;have qa:=Lib.countB_le ⟨#[q]⟩ u s.size s (Qz _);have r:=Lib.splitB_all ⟨#[q]⟩ u 0 _ s rfl;have c:=Any.strings_genSplit_core {L with} h s ⟨#[q]⟩ 0 (-1) (Lib.countB s ⟨#[q]⟩+1) w z u (QV _)
  (λx cc _=>(Any.strings_Index_one {L with} x q _).mono λe k ⟨v,n⟩=>⟨by rw[v,←Lib.index_one],n⟩)
  ((Any.strings_Count_one {L with} s q w).mono λe k ⟨v,n⟩=>⟨by rw[v];show _=Ending.returned (Value.int .i64 ((Lib.count s.data.toList [q]:Nat):Int));rw[Lib.count_one];rfl,n⟩)
  V V (by rw[if_pos V];omega)
 rw[Zv,r]at c;have y:Lib.cellsOf (Lib.splitB ⟨#[q]⟩ 0 (Lib.countB s ⟨#[q]⟩) s) (Lib.countB s ⟨#[q]⟩+1)=((Lib.splitB ⟨#[q]⟩ 0 (Lib.countB s ⟨#[q]⟩) s).map Value.string).toArray:=by rw[←r];exact Lib.cellsOf_full _
 rw[y]at c;have p:=L.t3;have t9:=L.t9;have g:=L.t31;have o:=L.a3;have a9:=L.a9;have d:=L.a31;have m:=L.z3;have v3:=L.v3;have z9:=L.z9;have v9:=L.v9;have j:=L.z31;have b:=L.v31;have a:∀args w,(callFunc (ρ.f 221) args).run P w= .ok (.enter (ρ.f 221) args) w:=enters_of L.f221 Z rfl
 go_enter L.f146,Body.n146_ntmps ρ
 go_wp2_with (go_at_fn (ρ.f 221);refine c.mono ?_;rintro e k ⟨rfl,n⟩;rw[n])
 go_ret
 exact Y4
end Go.Proofs
namespace Go.Vd
open Go.RowKit Go.Proofs
def Dg:List D->Option D
 |[.str s,.str [q]]=>if s.length<=1000000 then some (.slice false [] ((splitC q s).map .str))else none
 |_=>none
def CO{q:UInt8}:∀s:Bs,(splitC q s).length<=s.length+1
 |[]=>by simp[splitC]
 |c::r=>by
  have ih:=CO (q:=q) r;unfold splitC;split
  ·simp;omega
  ·grind
def aAx {P:Program} {ρ:Go.Shelf.Ren} (L:Go.Proofs.Lays.n146 P ρ) (h:(P.info? (ρ.t 9)).map (fun i=>(i.zero,i.size,i.bytes))=some (some (.string ByteArray.empty),1,16)) (ua:∃fn,P.funcs[ρ.f 146]?=some fn∧fn.body.isSome=true∧(fn.name== "runtime.NumGoroutine")=false):(Ac Dg).ok P (ρ.f 146):=by
 refine⟨ua,λds m m' fr _=>rfl,?_⟩;intro B w0 w m g fr ds vs r u hi fa hl da y;simp only[Ac]at y;split at y
 ·rw[Qj]at y;obtain⟨r',j,y⟩:=y;simp only[Qr]at y;obtain⟨rfl,rfl⟩:=y
  match ds,vs,hl with
  |[d,d1],[v,v1],_=>
   have h0:=da 0 d v rfl rfl;have k:=da 1 d1 v1 rfl rfl;have p:∃s,d= .str s:=by
    cases d<;>first|exact⟨_,rfl⟩|(exfalso;simp[Dg,D.un]at j;done)
   obtain⟨s,rfl⟩:=p;have c:∃q,d1= .str [q]:=by
    cases d1 with
    |str z=>
     simp only[Q0,QQ,D.un,Dg]at j;split at j
     ·simp_all
     ·cases j
    |_=>exfalso;simp[Dg,D.un]at j
   obtain⟨q,rfl⟩:=c;simp only[Q0,QQ,D.un,Dg]at j;split at j
   ·rename_i hc;simp only[Qb]at j;subst j;rw[h0.str_inv,k.str_inv];have a:Lib.countB ⟨s.toArray⟩ ⟨#[q]⟩=s.count q:=by
     show Lib.count s [q]=_;exact Lib.count_one q s
    have b:(Lib.splitB ⟨#[q]⟩ 0 (s.count q) ⟨s.toArray⟩).map (·.data.toList)=splitC q s:=by
     rw[Lib.splitB_data];exact Go.Proofs.splitK_eq q s.length s (Qz _)
    have o:(splitC q s).length=s.count q+1:=by
     rw[←b,Qw,←a];exact Lib.splitB_all ⟨#[q]⟩ (Qz 1) 0 _ _ rfl
    refine(Go.Proofs.split_space q L h ⟨s.toArray⟩ w (by show s.length<_;omega)).mono ?_;rintro ev w' ⟨rfl,rfl⟩;have hb:Below w.heap.size w (w.alloc (.cells ((Lib.splitB ⟨#[q]⟩ 0 (Lib.countB ⟨s.toArray⟩ ⟨#[q]⟩) ⟨s.toArray⟩).map Value.string).toArray (ρ.t 9))):=(Below.refl _ _).alloc (Qz _) _;refine⟨_,g.over w _,rfl,hi.over hb,Ht.over hi.gz hb,aHh (e:=ρ.t 9) (n:=s.count q+1) hi hb (WP _) (by rw[Qw,o]) ?_ U,λi hf _=>hf⟩;have pa:=CO (q:=q) s;have ka:((splitC q s).map D.str).map (λd=>Value.string ⟨(oE d).toArray⟩)=(Lib.splitB ⟨#[q]⟩ 0 (s.count q) ⟨s.toArray⟩).map Value.string:=by
     rw[←b,QI,QI];refine QC λx _=>?_
     rfl
    rw[ka,a];have xa:((Lib.splitB ⟨#[q]⟩ 0 (s.count q) ⟨s.toArray⟩).map Value.string).length=s.count q+1:=by
     rw[←o,←b];simp
    refine⟨by rw[xa];omega,.inr ⟨w.heap.size,s.count q+1,_,rfl,Qz _,heap_alloc_new w _,Qz _,?_,?_,?_⟩⟩
    ·rw[o]at pa;have:maxLen=9223372036854775807:=rfl;omega
    ·rw[List.size_toArray,xa];omega
    ·rw[Q9 (by rw[xa];omega)]
   ·cases j
  |[],_,_=>simp[Dg]at j
  |[_],_,_=>simp[Dg]at j
  |_::_::_::_,_,_=>simp[Dg]at j
 ·cases y
end Go.Vd
namespace Go.Vd
open Go.Proofs Go.RowKit
def FR:Bool->List Bs->Option Bool
 |w,[]=>some w
 |w,p::r=>if Gb p=4 then none else FR (w||decide (Gb p=5)) r
def wI(w:Bool):Int:=if w=true then 5 else 0
def IR(l:List Bs):Int:=match FR false l with
 |none=>4
 |some w=>if w=true then 5 else if 6<l.length then 24 else 0
def okL(l:List Bs):Prop:=l.length<=1000001∧∀p∈l,p.length<=1000000
theorem Ok(s:Bs):Gb s=4∨Gb s=5∨Gb s=0:=by
 have:∀f p n,Ez s f p n=4∨Ez s f p n=5∨Ez s f p n=0:=by
  intro f;induction f with
  |zero=>intro p n;unfold Ez;split<;>simp
  |succ f ih=>
   intro p n;unfold Ez;split
   ·grind
   ·split<;>simp
 unfold Gb;split
 ·simp
 ·exact this _ _ _
open Classical in
def aF3:List D->Option D
 |[.slice _ _ xs]=>match GG xs with
  |some l=>if okL l then some (.int .i64 (IR l))else none
  |none=>none
 |_=>none
def aHI{S:GZ}{ns:Id}{l:List Bs}{nl:Bool}{t:Id}{e:Option Bool}{Q:Ex->St->Prop}(m:okL l)(a:S 294=some (Ac aF2))
  (r:∀y,e=none->y.s 2= .int .i64 4->Q .ret y) (p:∀y w,e=some w->y.s 3= .int .i64 (wI w)->y.s 0= .slice nl t (l.map .str)->Q (.exit 0) y):
  ∀(n k:Nat)(w:Bool) y g,n=l.length-k->k<=l.length->FR w (l.drop k)=e->y.s 8= .int .i64 (k:Int)->y.s 7= .int .i64 (l.length:Int)->y.s 6= .slice nl t (l.map .str)->y.s 0= .slice nl t (l.map .str)->y.s 3= .int .i64 (wI w)->Ba S ns O7 Q y g:=by
 intro n;induction n with
 |zero=>
  intro k w y g o hk v b x h6 z i;refine Af O7.eq_1 ?_;have:¬((k:Int)<l.length):=O
  simp only[↓C2,G8,Hj,reduceIte,Qf,b,x,this];rw[List.drop_eq_nil_of_le O]at v;exact p _ w v.symm (by simp only[↓C2,reduceIte,Qe,i]) (by simp only[↓C2,reduceIte,Qe,z])
 |succ n ih=>
  intro k w y g o hk v b x h6 z i;refine Af O7.eq_1 ?_;have na:k<l.length:=O
  have u:((k:Int)<l.length):=O
  have c:(0:Int)<=(k:Int):=O
  have q:(l.map D.str)[(k:Int).toNat]?=some (.str (l[k])):=by simp[na]
  have ia:=m.1;have f:IntKind.i64.wrap ((k:Int)+1)=((k+1:Nat):Int):=Hu O O;have j:aF2 [.str l[k]]=some (.int .i64 (Gb l[k])):=if_pos (m.2 _ (Zf na));rw[Q4 na]at v;simp only[FR]at v;rcases Ok l[k]with h|h|h
  ·rw[if_pos h]at v;rw[h]at j;simp only[↓C2,G_,simprocAttr,b,x,h6,u,c,q,Ab a,j];exact r _ v.symm rfl
  ·rw[if_neg O,h]at v;rw[h]at j;have c1:((5:Int)=4)=False:=by simp
   simp only[↓C2,G_,simprocAttr,b,x,h6,u,c,q,Ab a,j,c1,f];exact ih (k+1) true _ _ O O XT rfl x h6 z rfl
  ·rw[if_neg O,h]at v;rw[h]at j;have c1:((0:Int)=4)=False:=by simp
   have d:((0:Int)=5)=False:=U
   simp only[↓C2,G_,simprocAttr,b,x,h6,u,c,q,Ab a,j,c1,d,f];exact ih (k+1) w _ _ O O XT rfl x h6 z i
def aTu:Kq aF3 242:=by
 obtain⟨S,g,hl⟩:=Bp (Aa aTt Ad);have a:=hl 294 _ rfl;clear hl;refine AM (S:=S) g (Ai func242:Fn Qg 242 27 aL5 [.t 2]) (λds r h=>?_) (λds r h=>?_)
 ·unfold aF3 at h;split at h
  ·simp
  ·cases h
 ·unfold aF3 at h;split at h
  ·rename_i nl t xs;split at h
   ·rename_i l hl;obtain rfl:=Ft hl;split at h
    ·rename_i m;simp only[Qb]at h;subst h;unfold aL5 IR;simp only[↓C2,G8,simprocAttr,Qw];have ia:=m.1;refine aHI (nl:=nl) (t:=t) (e:=FR false l) m a (λy u f=>?_) (λy w u f i=>?_) l.length 0 false _ _ O O rfl rfl rfl rfl rfl rfl
     ·simp only[↓C2,G_,f,u]
     ·have c1:((6:Int)<(l.length:Int))=(6<l.length):=by simp only[eq_iff_iff];omega
      have p:((5:Int)=0)=False:=U
      have o:((0:Int)=0)=True:=U
      cases w<;>simp only[wI,reduceIte,QR]at f<;>simp only[↓C2,G_,simprocAttr,u,f,i,Qw,c1,p];refine aF (λh=>?_) (λh=>?_)<;>simp only[↓C2,G_,simprocAttr,h,f,u]
    ·cases h
   ·cases h
  ·cases h
def AF(s:Bs):Int:=if 64<s.length then 5 else IR (splitC 47 s)
def jF{s:Bs}(h:s.length<=1000000):okL (splitC 47 s):=by
 have:∀(s:Bs) w,w∈splitC 47 s->w.length<=s.length:=by
  intro s;induction s with
  |nil=>intro w t;simp[splitC]at t;simp[t]
  |cons c r ih=>
   intro w t;unfold splitC at t;split at t
   ·grind
   ·grind
 have f:=CO (q:=47) s;exact⟨O,λp k=>by have:=this s p k;omega⟩
end Go.Vd
namespace Go.Proofs
open Go.Shelf
def aL:Go.Shelf.Ren:=⟨λ|146=>42|221=>95|268=>162|138=>163|143=>164|195=>234|197=>235|218=>236|219=>237|260=>286|217=>287|225=>288|224=>289|267=>290|266=>319|314=>320|n=>n,λ|9=>9|31=>23|3=>3|4=>4|0=>0|105=>303|21=>21|5=>5|46=>109|119=>368|139=>371|138=>370|146=>269|51=>268|n=>n,λ|1=>0|3=>1|4=>2|n=>n⟩
def aN:Go.Proofs.Lays.n146 Qg aL:={
 mixed:=Z
 f138:=func163.trans (congrArg some Z)
 f143:=func164.trans (congrArg some Z)
 f146:=func42.trans (congrArg some Z)
 f195:=func234.trans (congrArg some Z)
 f197:=func235.trans (congrArg some Z)
 f217:=func287.trans (congrArg some Z)
 f218:=func236.trans (congrArg some Z)
 f219:=func237.trans (congrArg some Z)
 f221:=func95.trans (congrArg some Z)
 f224:=func289.trans (congrArg some Z)
 f225:=func288.trans (congrArg some Z)
 f260:=func286.trans (congrArg some Z)
 f266:=func319.trans (congrArg some Z)
 f267:=func290.trans (congrArg some Z)
 f268:=func162.trans (congrArg some Z)
 f314:=func320.trans (congrArg some Z)
 t0:=underlying0
 a0:=isAgg0
 z0:=sizeOf0
 v0:=zeroValue0
 t3:=underlying3
 a3:=isAgg3
 z3:=sizeOf3
 v3:=zeroValue3
 t4:=underlying4
 a4:=isAgg4
 z4:=sizeOf4
 v4:=zeroValue4
 t5:=underlying5
 a5:=isAgg5
 z5:=sizeOf5
 v5:=zeroValue5
 t9:=underlying9
 a9:=isAgg9
 z9:=sizeOf9
 v9:=zeroValue9
 t21:=underlying21
 a21:=isAgg21
 z21:=sizeOf21
 v21:=zeroValue21
 t31:=underlying23
 a31:=isAgg23
 z31:=sizeOf23
 v31:=zeroValue23
 t46:=underlying109
 a46:=isAgg109
 z46:=sizeOf109
 v46:=zeroValue109
 t51:=underlying268
 a51:=isAgg268
 z51:=sizeOf268
 v51:=zeroValue268
 t105:=underlying303
 a105:=isAgg303
 z105:=sizeOf303
 v105:=zeroValue303
 t119:=underlying368
 a119:=isAgg368
 z119:=sizeOf368
 t138:=underlying370
 a138:=isAgg370
 z138:=sizeOf370
 v138:=zeroValue370
 t139:=underlying371
 a139:=isAgg371
 z139:=sizeOf371
 v139:=zeroValue371
 t146:=underlying269
 a146:=isAgg269
 z146:=sizeOf269
 v146:=zeroValue269
 g1:=Z
 g3:=Z
 g4:=Z}
end Go.Proofs
namespace Go.Vd
open Go.Proofs Go.RowKit
def uW:Kq Dg 42:=aAx aN Z ⟨_,func42,Z,Z⟩
open Classical in
def aF6:List D->Option D
 |[.str s]=>if s.length<=1000000 then some (.tup [if AF s=0 then .slice false [] ((splitC 47 s).map .str)else .slice true [] [],.int .i64 (AF s)])else none
 |_=>none
def aJ8{l:List Bs}{nl:Bool}{t:Id}(h:okL l):aF3 [.slice nl t (l.map .str)]=some (.int .i64 (IR l)):=by
 grind [aF3,GF]
def aTF:Kq aF6 174:=by
 obtain⟨S,g,hl⟩:=Bp (Aa uW (Aa aTu Ad));have u:=hl 42 _ rfl;have a:=hl 242 _ rfl;clear hl;refine AM (S:=S) g (Ai func174:Fn Qg 174 17 aMw [.t 2,.t 3]) (λds r h=>?_) (λds r h=>?_)
 ·unfold aF6 at h;split at h
  ·simp
  ·cases h
 ·unfold aF6 at h;split at h
  ·rename_i s;split at h
   ·rename_i j;simp only[Qb]at h;subst h;unfold aMw AF;have b:((64:Int)<(s.length:Int))=(64<s.length):=by simp only[eq_iff_iff];omega
    have m:((5:Int)=0)=False:=U
    have z:Dg [.str s,.str [47]]=some (.slice false [] ((splitC 47 s).map .str)):=if_pos j;have k:=aJ8 (nl:=false) (t:=[]) (jF j);have w:((splitC 47 s).map D.str).all D.calm=true:=by simp[Qs];intros;rfl
    by_cases q:64<s.length
    ·simp only[↓C2,G_,simprocAttr,b,q,m]
    ·simp only[↓C2,G_,simprocAttr,b,q,Ab u,Ab a,z,k];refine aF (λh=>?_) (λh=>?_)<;>simp only[↓C2,G_,simprocAttr,h,q]
   ·cases h
  ·cases h
def iE:List D->Option D
 |[.str s]=>if s.length<=1000000 then some (.int .i64 (AF s))else none
 |_=>none
def pF:Kq iE 107:=by
 obtain⟨S,g,hl⟩:=Bp (Aa aTF Ad);have a:=hl 174 _ rfl;clear hl;refine AM (S:=S) g (Ai func107:Fn Qg 107 11 aNh [.t 2]) (λds r h=>?_) (λds r h=>?_)
 ·unfold iE at h;split at h
  ·simp
  ·cases h
 ·unfold iE at h;split at h
  ·rename_i s;split at h
   ·rename_i j;simp only[Qb]at h;subst h;have z:aF6 [.str s]=some (.tup [if AF s=0 then .slice false [] ((splitC 47 s).map .str)else .slice true [] [],.int .i64 (AF s)]):=by
     simp only[aF6,if_pos j]
    unfold aNh;simp only[↓C2,G_,simprocAttr,Ab a,z]
   ·cases h
  ·cases h
def aNd:=y0 f161 [] []
def aMv:=y0 f54 [] []
def aMj:=y0 f109 [] []
def aNi:=y0 f106 [] []
def aMx:=y0 f173 [] []
def aMm:=y0 f105 [] []
def B7(s t:Bs):Bool:=decide (s.take t.length=t)
def dZ{s t:Bs}(h:B7 s t=true):t.length<=s.length:=by
 grind [B7]
def Cu(s z:Bs):Bool:=if z=[]then decide (s≠[])else B7 s z&&B7 (s.drop z.length) [47]
def Ch(s z:Bs):Bool:=decide (s=z)||Cu s z
def Dl(s z:Bs):Bs:=if z=[]then s else if B7 s z=true then(if B7 (s.drop z.length) [47]=true then(s.drop z.length).drop 1 else s.drop z.length)else []
def zH:List D->Option D
 |[.str s,.str t]=>some (.bool (B7 s t))
 |_=>none
def aKZ:Kq zH 105:=by
 refine AM (S:=λ_=>none) A6 (Ai func105:Fn Qg 105 18 aMm [.t 4]) (λds r h=>?_) (λds r h=>?_)
 ·unfold zH at h;split at h
  ·simp
  ·cases h
 ·unfold zH at h;split at h
  ·rename_i s t;simp only[Qb]at h;subst h;unfold aMm;have c1:((t.length:Int)<=(s.length:Int))=(t.length<=s.length):=by simp only[eq_iff_iff];omega
   have p:((0:Int)<=(t.length:Int))=True:=eq_true O;by_cases hl:t.length<=s.length
   ·simp only[↓C2,G_,simprocAttr,c1,p,hl,Qi,QZ,QA,and_self];simp[B7]
   ·simp only[↓C2,G_,simprocAttr,c1,hl];have:B7 s t=false:=by rw[Bool.eq_false_iff];intro h;exact hl (dZ h)
    simp[this]
  ·cases h
def aKd:List D->Option D
 |[.str s,.str t]=>some (.tup [.str (if B7 s t=true then s.drop t.length else s),.bool (B7 s t)])
 |_=>none
def aTG:Kq aKd 173:=by
 obtain⟨S,g,hl⟩:=Bp (Aa aKZ Ad);have a:=hl 105 _ rfl;clear hl;refine AM (S:=S) g (Ai func173:Fn Qg 173 15 aMx [.t 4,.t 5]) (λds r h=>?_) (λds r h=>?_)
 ·unfold aKd at h;split at h
  ·simp
  ·cases h
 ·unfold aKd at h;split at h
  ·rename_i s t;simp only[Qb]at h;subst h;unfold aMx;have c1:((t.length:Int)<=(s.length:Int))=(t.length<=s.length):=by simp only[eq_iff_iff];omega
   have p:((0:Int)<=(t.length:Int))=True:=eq_true O;have z:zH [.str s,.str t]=some (.bool (B7 s t)):=rfl;cases hp:B7 s t with
   |false=>simp only[↓C2,G_,simprocAttr,Ab a,z,hp]
   |true=>
    have hl:=dZ hp;have e:(s.drop t.length).take (s.length-t.length)=s.drop t.length:=Q9 U;simp only[↓C2,G_,simprocAttr,Ab a,z,hp,c1,p,hl,Qi,and_self,e]
  ·cases h
def zL:List D->Option D
 |[.str s,.str t]=>some (.tup [.str (if B7 s t=true then s.drop t.length else s),.bool (B7 s t)])
 |_=>none
def aK6:Kq zL 106:=by
 obtain⟨S,g,hl⟩:=Bp (Aa aTG Ad);have a:=hl 173 _ rfl;clear hl;refine AM (S:=S) g (Ai func106:Fn Qg 106 11 aNi [.t 4,.t 5]) (λds r h=>?_) (λds r h=>?_)
 ·unfold zL at h;split at h
  ·simp
  ·cases h
 ·unfold zL at h;split at h
  ·rename_i s t;simp only[Qb]at h;subst h;unfold aNi;have z:aKd [.str s,.str t]=some (.tup [.str (if B7 s t=true then s.drop t.length else s),.bool (B7 s t)]):=rfl;simp only[↓C2,G_,simprocAttr,Ab a,z]
  ·cases h
def zG:List D->Option D
 |[.str s,.str t]=>some (.tup [.str (Dl s t),.bool (Cu s t)])
 |_=>none
def aKX:Kq zG 109:=by
 obtain⟨S,g,hl⟩:=Bp (Aa aK6 Ad);have a:=hl 106 _ rfl;clear hl;refine AM (S:=S) g (Ai func109:Fn Qg 109 25 aMj [.t 4,.t 5]) (λds r h=>?_) (λds r h=>?_)
 ·unfold zG at h;split at h
  ·simp
  ·cases h
 ·unfold zG at h;split at h
  ·rename_i s t;simp only[Qb]at h;subst h;unfold aMj;have z:∀s t,zL [.str s,.str t]=some (.tup [.str (if B7 s t=true then s.drop t.length else s),.bool (B7 s t)]):=λ_ _=>rfl
   unfold Dl Cu;by_cases u:t=[]
   ·have b:(t=[])=True:=eq_true u;simp only[↓C2,G_,simprocAttr,b]
    try simp
   ·have b:(t=[])=False:=eq_false u;cases h1:B7 s t with
    |false=>simp only[↓C2,G_,simprocAttr,b,Ab a,z,h1,Za]
    |true=>
     cases h2:B7 (s.drop t.length) [47]with
     |false=>simp only[↓C2,G_,simprocAttr,b,Ab a,z,h1,h2]
     |true=>simp only[↓C2,G_,simprocAttr,b,Ab a,z,h1,h2,Qm,Qq]
  ·cases h
def zI:List D->Option D
 |[.str s,.str t]=>some (.bool (Cu s t))
 |_=>none
def aK0:Kq zI 54:=by
 obtain⟨S,g,hl⟩:=Bp (Aa aKX Ad);have a:=hl 109 _ rfl;clear hl;refine AM (S:=S) g (Ai func54:Fn Qg 54 14 aMv [.t 4]) (λds r h=>?_) (λds r h=>?_)
 ·unfold zI at h;split at h
  ·simp
  ·cases h
 ·unfold zI at h;split at h
  ·rename_i s t;simp only[Qb]at h;subst h;unfold aMv;have z:zG [.str s,.str t]=some (.tup [.str (Dl s t),.bool (Cu s t)]):=rfl;simp only[↓C2,G_,simprocAttr,Ab a,z]
  ·cases h
def zK:List D->Option D
 |[.str s,.str t]=>some (.bool (Ch s t))
 |_=>none
def aK5:Kq zK 161:=by
 obtain⟨S,g,hl⟩:=Bp (Aa aK0 Ad);have d:=hl 54 _ rfl;clear hl;refine AM (S:=S) g (Ai func161:Fn Qg 161 13 aNd [.t 4]) (λds r h=>?_) (λds r h=>?_)
 ·unfold zK at h;split at h
  ·simp
  ·cases h
 ·unfold zK at h;split at h
  ·rename_i s t;simp only[Qb]at h;subst h;unfold aNd;have z:zI [.str s,.str t]=some (.bool (Cu s t)):=rfl;unfold Ch;by_cases j:s=t
   ·have i:(s=t)=True:=eq_true j;simp only[↓C2,G_,simprocAttr,i]
    try simp
   ·have i:(s=t)=False:=eq_false j;simp only[↓C2,G_,simprocAttr,i,Ab d,z]
    try simp
  ·cases h
def aWn:=y0 f264 [] []
def Pi:=y1 f108 4 [] []
def aNg:=y0 f108 [] [(4,Pi)]
def aVZ:=y0 f53 [] []
def aM9:=y0 f199 [] []
def aMs:=y0 f239 [] []
def aWk:=y0 f291 [] []
def aL4:=y0 f292 [] []
def aIs:=y1 f321 2 [] []
def aWi:=y0 f321 [] [(2,aIs)]
def Ph:=y1 f168 4 [] []
def aM8:=y0 f168 [] [(4,Ph)]
def aV1:=y0 f41 [] []
def Pj:=y1 f94 3 [] []
def aNj:=y0 f94 [] [(3,Pj)]
def Pk:=y1 f93 3 [] []
def aNk:=y0 f93 [] [(3,Pk)]
def aM7:=y0 f307 [] []
def Pr:=y1 f254 7 [(9,[(6,2)])] []
def Pq:=y1 f254 4 [] [(7,Pr)]
def aNV:=y0 f254 [] [(4,Pq)]
def IZ(op:Int):Int:=if op=9∨op=14∨op=18 then 1 else if op=10∨op=15 then 2 else if op=11∨op=12 then 4 else if op=13∨op=16 then 8 else if op=17 then 16 else if 3<=op∧op<=8 then 32 else 0
def Ef(op:Int):Bool:=decide (4<=op∧op<=18∧op≠9∧op≠14∧op≠17)
def F27:List D->Option D
 |[.int .u8 op]=>some (.int .u8 (IZ op))
 |_=>none
def aX5:Kq F27 264:=by
 refine AM (S:=λ_=>none) A6 (Ai func264:Fn Qg 264 26 aWn [.t 2]) (λds r h=>?_) (λds r h=>?_)
 ·unfold F27 at h;split at h
  ·simp
  ·cases h
 ·unfold F27 at h;split at h
  ·rename_i op;simp only[Qb]at h;subst h;unfold aWn;simp only[↓C2,G8,simprocAttr]
   repeat' (first|(refine aF (λh=>?_) (λh=>?_)<;>try (exfalso;omega))|(simp only[↓C2,G_,simprocAttr,h]))
   all_goals (first|rfl|(rw[D.int.injEq];refine⟨rfl,?_⟩;unfold IZ;(repeat' split)<;>first|rfl|(exfalso;omega)))
  ·cases h
def Ea(c:Int):Bool:=decide (97<=c∧c<=122)||decide (48<=c∧c<=57)
def MD(s:Bs):Nat->Nat->Bool
 |0,_=>true
 |f+1,p=>if p<s.length then Ea (Ho s p)&&MD s f (p+1)else true
def BT(s:Bs):Bool:=decide (1<=s.length)&&decide (s.length<=8)&&MD s s.length 0
def aC1(s:Bs)(p:Nat)(c:p<s.length):Ea ((Utf8.decode ⟨s.toArray⟩ p).1:Nat)=Ea (Ho s p)∧(Ea (Ho s p)=true->(Utf8.decode ⟨s.toArray⟩ p).2=1):=by
 have z:=R0 s p;by_cases h:Ho s p<128
 ·have:Utf8.decode ⟨s.toArray⟩ p=(Ho s p,1):=by
   unfold Utf8.decode;simp only[NQ,Q8,h,if_true]
  rw[this];exact⟨rfl,λ_=>rfl⟩
 ·have u:Ea (Ho s p)=false:=by simp[Ea];omega
  have f:128<=(Utf8.decode ⟨s.toArray⟩ p).1:=by
   unfold Utf8.decode;simp only[NQ,Q8,h,if_false]
   (repeat' split)<;>simp_all [Utf8.runeError]<;>omega
  refine⟨?_,λe=>by rw[u]at e;cases e⟩;rw[u];simp[Ea];omega
def aHP{S:GZ}{ns i:Id}{s:Bs}{Q:Ex->St->Prop}{e:Bool}(o:∀y,e=false->y.s 2= .bool false->Q .ret y)(q:∀y,e=true->Q (.exit 0) y):
  ∀(f p:Nat) y g,s.length<=p+f->MD s f p=e->y.s 13= .itp i->y.m i 1=some (.it s p)->Ba S ns Pi Q y g:=by
 intro f;induction f with
 |zero=>
  intro p y g d v z j;refine Af Pi.eq_1 ?_;have:¬(p<s.length):=O
  simp only[↓C2,G8,Hj,simprocAttr,j,z,this];exact q _ v.symm
 |succ f ih=>
  intro p y g d v z j;refine Af Pi.eq_1 ?_;unfold MD at v;by_cases u:p<s.length
  ·rw[if_pos u]at v;obtain⟨t,b⟩:=aC1 s p u;cases ho:Ea (Ho s p)with
   |true=>
    rw[ho,ZG]at v;have w:=b ho;rw[ho]at t;have k:(97<=((Utf8.decode ⟨s.toArray⟩ p).1:Int)∧((Utf8.decode ⟨s.toArray⟩ p).1:Int)<=122)∨(48<=((Utf8.decode ⟨s.toArray⟩ p).1:Int)∧((Utf8.decode ⟨s.toArray⟩ p).1:Int)<=57):=by simpa[Ea]using t
    have c:y.m.put i 1 [.it s (p+(Utf8.decode ⟨s.toArray⟩ p).2)] i 1=some (.it s (p+1)):=by rw[Eg,if_pos ⟨rfl,rfl⟩,w]
    simp only[↓C2,G8,Hj,simprocAttr,j,z,u]
    repeat' (first|(refine aF (λh=>?_) (λh=>?_)<;>try (exfalso;omega))|(simp only[↓C2,G8,Hj,simprocAttr,h]))
    all_goals (first|exact ih _ _ _ O v z c|(exfalso;omega))
   |false=>
    rw[ho,Za]at v;rw[ho]at t;have k:¬((97<=((Utf8.decode ⟨s.toArray⟩ p).1:Int)∧((Utf8.decode ⟨s.toArray⟩ p).1:Int)<=122)∨(48<=((Utf8.decode ⟨s.toArray⟩ p).1:Int)∧((Utf8.decode ⟨s.toArray⟩ p).1:Int)<=57)):=by
     grind [Ea]
    simp only[↓C2,G8,Hj,simprocAttr,j,z,u]
    repeat' (first|(refine aF (λh=>?_) (λh=>?_)<;>try (exfalso;omega))|(simp only[↓C2,G8,Hj,simprocAttr,h]))
    all_goals (first|exact o _ v.symm rfl|(exfalso;omega))
  ·rw[if_neg u]at v;simp only[↓C2,G8,Hj,simprocAttr,j,z,u];exact q _ v.symm
def aKq:List D->Option D
 |[.str s]=>some (.bool (BT s))
 |_=>none
def aTW:Kq aKq 108:=by
 refine AM (S:=λ_=>none) A6 (Ai func108:Fn Qg 108 31 aNg [.t 2]) (λds r h=>?_) (λds r h=>?_)
 ·unfold aKq at h;split at h
  ·simp
  ·cases h
 ·unfold aKq at h;split at h
  ·rename_i s;simp only[Qb]at h;subst h;unfold aNg;unfold BT;have c1:((8:Int)<(s.length:Int))=(8<s.length):=by simp only[eq_iff_iff];omega
   by_cases z:s=[]
   ·subst z;simp only[↓C2,G_,simprocAttr]
    try simp
   ·have x:(s=[])=False:=eq_false z;have hl:1<=s.length:=by cases s with|nil=>exact absurd rfl z|cons _ _=>simp
    by_cases w:8<s.length
    ·simp only[↓C2,G_,simprocAttr,x,c1,w];simp;omega
    ·simp only[↓C2,G8,Hj,simprocAttr,x,c1,w];have n:(decide (1<=s.length)&&decide (s.length<=8)&&MD s s.length 0)=MD s s.length 0:=by simp;omega
     rw[n];refine aHP (e:=MD s s.length 0) (λy u f=>?_) (λy u=>?_) s.length 0 _ _ O rfl rfl Yh
     ·simp only[↓C2,G_,u,f]
     ·simp only[↓C2,G_,reduceIte,Qf,u]
  ·cases h
theorem Ah{m:G6}{i v:Id}{o o':Nat}{ds:List D}:m.put i o ds v o'=if v=i∧o<=o'∧o'<o+ds.length then ds[o'-o]? else m v o':=rfl
def Au{m:G6}{i:Id}{o:Nat}:Ag m i o 0=some []:=rfl
def Av{m:G6}{i:Id}{o n:Nat}:Ag m i o (n+1)=(m i o).bind λd=>(Ag m i (o+1) n).map (d::·):=by
 show(match m i o with|some d=>_|none=>none)=_;cases m i o<;>rfl
def Bu{s:Nat->D}{m:G6}{k:Option Nat}{a:Nat}:C9 [.cell k a] s m=dK m k (s a):=by
 simp only[C9,Ia,RV.of];cases dK m k (s a)<;>rfl
def AW{m:G6}{n:Nat}{i:Id}{o:Nat}:dK m (some n) (.ptr i o)=(Ag m i o n).map .agg:=rfl
def Ca(k:Int)(name:Bs)(n:Int):Int:=
 if k=1 then(if n=0∧AF name=0 then 0 else 2)else if k=2 then(if 1<=n∧n<=30∧AF name=0 then 0 else 2)else if k=3 then(if n=0∧BT name=true then 0 else 2)
 else if k=4∨k=5 then(if n=0∧name=[]then 0 else 2)else 22
def F98:List D->Option D
 |[.agg [.int .u8 k,.str name,.int .i64 n]]=>if name.length<=1000000 then some (.int .i64 (Ca k name n))else none
 |_=>none
def aHw:Kq F98 53:=by
 obtain⟨S,g,hl⟩:=Bp (Aa pF (Aa aTW Ad));have m:=hl 107 _ rfl;have d:=hl 108 _ rfl;clear hl;refine AM (S:=S) g (Ai func53:Fn Qg 53 53 aVZ [.t 2]) (λds r h=>?_) (λds r h=>?_)
 ·unfold F98 at h;split at h
  ·simp
  ·cases h
 ·unfold F98 at h;split at h
  ·rename_i k name n;split at h
   ·rename_i w;simp only[Qb]at h;subst h;unfold aVZ;have a:iE [.str name]=some (.int .i64 (AF name)):=if_pos w;have c:aKq [.str name]=some (.bool (BT name)):=rfl;unfold Ca;generalize AF name=e at *;generalize BT name=b at *;simp only[↓C2,G8,H_,simprocAttr,Ah,QV,QZ,Qm,Qq,Qv,Qx,Qd,and_self]
    repeat' (first|(refine aF (λh=>?_) (λh=>?_)<;>try (exfalso;omega))|(simp only[↓C2,Hf,simprocAttr,h,Ah,Qd,Ab m,Ab d,a,c]))
    all_goals (first|rfl|(rw[D.int.injEq];refine⟨rfl,?_⟩;(repeat' split)<;>first|rfl|(exfalso;simp_all;done)|(exfalso;simp_all;omega)))
   ·cases h
  ·cases h
def aGa:List D->Option D
 |[.str s]=>if s.length<=1000000 then some (.bool (BT s))else none
 |_=>none
def aTS:Kq aGa 199:=by
 obtain⟨S,g,hl⟩:=Bp (Aa aHw Ad);have a:=hl 53 _ rfl;clear hl;refine AM (S:=S) g (Ai func199:Fn Qg 199 7 aM9 [.t 2]) (λds r h=>?_) (λds r h=>?_)
 ·unfold aGa at h;split at h
  ·simp
  ·cases h
 ·unfold aGa at h;split at h
  ·rename_i s;split at h
   ·rename_i w;simp only[Qb]at h;subst h;unfold aM9;have z:F98 [.agg [.int .u8 3,.str s,.int .i64 0]]=some (.int .i64 (Ca 3 s 0)):=if_pos w;have e:Ca 3 s 0=if BT s=true then 0 else 2:=by simp[Ca]
    simp only[↓C2,G_,simprocAttr,Fz,Qy,Qt,QD,QA,Ze,QU,and_self,Cn,Ab a,z,e,Qm,Qq,Qv,and_self];cases BT s<;>simp
   ·cases h
  ·cases h
def FS(m:G6):List D->Option D
 |[]=>some .junk
 |[.ptr i 0]=>m i 0
 |_=>none
def aID:List D->List Loc
 |[.ptr i 0]=>[(i,0)]
 |_=>[]
theorem RS{m m':G6}{caps:List D}(h:∀l∈aID caps,m l.1 l.2=m' l.1 l.2):FS m caps=FS m' caps:=by
 unfold FS;split
 ·rfl
 ·simp_all [aID]
 ·rfl
def IY(F:D->D->Option D):HF where
 rd:=λds _=>aID ds.tail
 ex:=λds m _=>match ds with
  |x::caps=>(FS m caps).bind λc=>(F c x).map λd=>(d,[])
  |[]=>none
def FJ:List (Option D)->Option (List Bool)
 |[]=>some []
 |some (.bool b)::r=>(FJ r).map (b::·)
 |_=>none
def Bm(l:List Bool):Int:=match l.findIdx? id with
 |some k=>k
 |none=>-1
def GQ(l:List Bool):decide (0<=Bm l)=l.any id:=by
 grind [Bm]
def qJ:Option Nat->D->Bool
 |none,.agg _=>false
 |none,_=>true
 |some n,.agg cs=>cs.length==n
 |some _,_=>false
def fnR(ds:List D):List Loc:=match ds with
 |[_,.fn _ caps]=>aID caps
 |_=>[]
def FQ(g:FuncId)(k:Option Nat)(F:D->D->Option D):HF where
 rd:=λds _=>fnR ds
 ex:=λds m _=>match ds with
  |[.slice _ _ xs,.fn g' caps]=>if g'=g∧xs.length<=1000000∧xs.all (qJ k)=true then(FS m caps).bind λc=>(FJ (xs.map (F c))).map λbs=>(.int .i64 (Bm bs),[])else none
  |_=>none
def iI(g:FuncId)(k:Option Nat)(F:D->D->Option D):HF where
 rd:=λds _=>fnR ds
 ex:=λds m _=>match ds with
  |[.slice _ _ xs,.fn g' caps]=>if g'=g∧xs.length<=1000000∧xs.all (qJ k)=true then(FS m caps).bind λc=>(FJ (xs.map (F c))).map λbs=>(.bool (bs.any id),[])else none
  |_=>none
def aIn(sz:Nat)(k:Option Nat):DC:=(.seq (.row [⟨some 9,.bin .lss (.t 8) (.t 7),[],none⟩]) (.seq (.cond (.t 9) .skip (.exit 0)) (.seq (.block 1 (.seq (.row [⟨some 10,.mv (.t 8),[],none⟩,⟨some 5,.mv (.t 10),[],none⟩]) (.seq (.row [⟨some 11,.mv (.t 1),[],none⟩,⟨some 12,.mv (.t 0),[],none⟩,⟨some 13,.mv (.t 5),[],none⟩,⟨some 14,.iaddr sz (.t 12) (.t 13),[],none⟩,⟨some 15,.load k (.t 14),[],none⟩,⟨some 16,.call (.t 11) [(.t 15)],[],none⟩]) (.cond (.t 16) (.seq (.row [⟨some 17,.mv (.t 5),[],none⟩,⟨some 4,.mv (.t 17),[],none⟩]) .ret) .skip)))) (.row [⟨some 18,.bin .add (.t 8) (.c (.int .i64 1)),[],none⟩,⟨some 8,.mv (.t 18),[],none⟩]))))
def dcI(sz:Nat)(k:Option Nat):DC:=(.seq (.row [⟨some 4,.mv (.c (.int .i64 0)),[],none⟩]) (.seq (.seq (.row [⟨some 6,.mv (.t 0),[],none⟩,⟨some 7,.len false (.t 6),[],none⟩,⟨some 8,.mv (.c (.int .i64 0)),[],none⟩]) (.block 0 (.loop (aIn sz k)))) (.seq (.row [⟨some 4,.mv (.c (.int .i64 (-1))),[],none⟩]) .ret)))
def aIo(f:FuncId):DC:=(.seq (.row [⟨some 4,.mv (.c (.bool false)),[],none⟩]) (.seq (.row [⟨some 5,.mv (.t 0),[],none⟩,⟨some 6,.mv (.t 1),[],none⟩,⟨some 7,.call (.c (.fn f [])) [(.t 5),(.t 6)],[],none⟩,⟨some 8,.bin .geq (.t 7) (.c (.int .i64 0)),[],none⟩,⟨some 4,.mv (.t 8),[],none⟩]) .ret))
def aO3(sz:Nat):Option Nat->Prop
 |none=>sz=1
 |some n=>sz=n
def aQO{sz:Nat}{k:Option Nat}(h:aO3 sz k){x:D}(q:qJ k x=true):x.cells.length=sz:=by
 cases k with
 |none=>cases x<;>first|(cases q;done)|exact h.symm
 |some n=>cases x<;>first|(cases q;done)|(simp only[qJ,beq_iff_eq]at q;exact q.trans h.symm)
def aCP{m:G6}{k:Option Nat}{x:D}{K:D->Ha->Prop}{t:Tag (m,K)}(q:qJ k x=true):Rk k (.eptr x.cells) m K t=K x []:=by
 cases k with
 |none=>cases x<;>first|(cases q;done)|(simp only[Rj,D.cells,QN,A3])
 |some n=>
  cases x<;>first|(cases q;done)|skip
  rename_i cs;simp only[qJ,beq_iff_eq]at q;subst q;simp only[On,D.cells,Qz,Uk,Zp]
def Ng:∀{l:List (Option D)} {bs:List Bool},FJ l=some bs->l=bs.map λb=>some (.bool b)
 |[],bs,h=>by simp only[FJ,Qb]at h;subst h;rfl
 |x::r,bs,h=>by
  unfold FJ at h;split at h
  ·rename_i e;cases e
  ·rename_i b q e;cases e;rw[Qj]at h;obtain⟨a,u,rfl⟩:=h;rw[Ng u];rfl
  ·cases h
def aUN{S:GZ}{ns:Id}{sz:Nat}{k:Option Nat}{g:FuncId}{F:D->D->Option D}{xs caps:List D}{c:D}{bs:List Bool}{nl:Bool}{t:Id}{m:G6}{Q:Ex->St->Prop}(ja:aO3 sz k)(hg:S g=some (IY F))(hb:xs.length<=1000000)(v:xs.all (qJ k)=true)
  (ma:FS m caps=some c) (la:xs.map (F c)=bs.map λb=>some (.bool b))
  (pa:∀(j:Nat) y,y.m=m->bs.findIdx? id=some j->y.s 4= .int .i64 (j:Int)->Q .ret y) (p:∀y,y.m=m->bs.findIdx? id=none->Q (.exit 0) y):
  ∀(n j:Nat) y tg,n=xs.length-j->j<=xs.length->(∀i,i<j->bs[i]?=some false)->y.m=m->y.s 8= .int .i64 (j:Int)->y.s 7= .int .i64 (xs.length:Int)->y.s 0= .slice nl t xs->y.s 1= .fn g caps->Ba S ns (aIn sz k) Q y tg:=by
 intro n;have r:bs.length=xs.length:=by simpa using (congrArg ZQ la).symm
 induction n with
 |zero=>
  intro j y tg o d ia a h8 h7 w u;refine Af (aIn.eq_1 sz k) ?_;have:¬((j:Int)<xs.length):=O
  simp only[↓C2,G8,Hj,reduceIte,Qf,h8,h7,this];refine p _ a (Zl.2 λb va=>?_);obtain⟨i,hi,rfl⟩:=QW va;have:=ia i O;rw[Qc hi]at this;simpa using QE this
 |succ n ih=>
  intro j y tg o d ia a h8 h7 w u;refine Af (aIn.eq_1 sz k) ?_;have ra:j<xs.length:=O
  have x:((j:Int)<xs.length):=O
  have oa:=nJ (j:=j);have q:xs[j]?=some xs[j]:=Qc ra;have f:qJ k xs[j]=true:=Qs.1 v _ (Zf ra);have na:=aQO ja f;have hw:=wJ (j:=j) O;obtain⟨ka,fa,da⟩:=y;simp only at a h8 h7 w u;subst a;have hF:F c xs[j]=some (.bool (bs[j]' O)):=by
   have e:=congrArg (·[j]?) la;simp only[QL,q,QM,Qc (show j<bs.length by omega)]at e;exact QE e
  have z:∀fr,(IY F).ex (xs[j]::caps) fa fr=some (.bool (bs[j]' O),[]):=by
   grind [IY]
  simp only[↓C2,G8,Hj,simprocAttr,h8,h7,w,u,x,oa,Qi,q,na,aCP f,AG hg,z];cases hbj:bs[j]' O with
  |true=>
   simp only[↓C2,G8,simprocAttr];refine pa j _ rfl ?_ rfl;rw[QS];refine⟨O,by simp[hbj],λi hi=>?_⟩;have:=ia i hi;rw[Qc O]at this;simp[QE this]
  |false=>
   simp only[↓C2,G8,simprocAttr,h8,hw];refine ih (j+1) _ _ O O (λi hi=>?_) rfl rfl h7 w u;rcases Nat.lt_or_eq_of_le (Nat.le_of_lt_succ hi)with hi|rfl
   ·exact ia i hi
   ·simp_all
def TM{ds:List D}{m m':G6}(h:∀l∈fnR ds,m l.1 l.2=m' l.1 l.2){x:D}{g:FuncId}{caps:List D}(e:ds=[x,.fn g caps]):FS m caps=FS m' caps:=by
 subst e;exact RS h
def NP{P:Program}{f g:FuncId}{sz:Nat}{k:Option Nat}{F:D->D->Option D}{N:Nat}(e:2<=N)(d:Fn P f N (dcI sz k) [.t 4])(ja:aO3 sz k)(hg:(IY F).ok P g):(FQ g k F).ok P f:=by
 have p:GZ.ok P (Ao [(g,IY F)]):=Aa hg Ad;have sg:Ao [(g,IY F)] g=some (IY F):=by simp[Ao]
 generalize Ao [(g,IY F)]=S at p sg;refine NH p d (λds m m' fr h=>?_) (λds m fr r u z _=>?_)
 ·simp only[FQ]at h ⊢;split
  ·rename_i nl t xs b caps;rw[TM h rfl]
  ·rfl
 ·simp only[FQ]at z;split at z
  ·rename_i nl t xs b caps;split at z
   ·rename_i s;obtain⟨rfl,hb,v⟩:=s;rw[QB]at z;obtain⟨c,ma,z⟩:=z;rw[Qj]at z;obtain⟨bs,n,z⟩:=z;simp only[Qr]at z;obtain⟨rfl,rfl⟩:=z;refine⟨e,?_⟩;unfold dcI;simp only[↓C2,G8,simprocAttr];refine aUN (xs:=xs) (caps:=caps) (c:=c) (bs:=bs) (nl:=nl) (t:=t) (m:=m) ja sg hb v ma (Ng n) (λj y a q w=>?_) (λy a q=>?_) xs.length 0 _ _ O O U rfl rfl rfl rfl rfl
    ·simp only[↓C2,G8,Hj,w,Bm,q,a];exact λi o x h=>h
    ·simp only[↓C2,G8,Hj,reduceIte,Qf,Bm,q,a];exact λi o x h=>h
   ·cases z
  ·cases z
def qY{P:Program}{f h g:FuncId}{k:Option Nat}{F:D->D->Option D}{N:Nat}(b:2<=N)(d:Fn P f N (aIo h) [.t 4])(hi:(FQ g k F).ok P h):(iI g k F).ok P f:=by
 have p:GZ.ok P (Ao [(h,FQ g k F)]):=Aa hi Ad;have a:Ao [(h,FQ g k F)] h=some (FQ g k F):=by simp[Ao]
 generalize Ao [(h,FQ g k F)]=S at p a;refine NH p d (λds m m' fr h=>?_) (λds m fr r u z _=>?_)
 ·simp only[iI]at h ⊢;split
  ·rename_i nl t xs q caps;rw[TM h rfl]
  ·rfl
 ·simp only[iI]at z;split at z
  ·rename_i nl t xs q caps;split at z
   ·rename_i w;rw[QB]at z;obtain⟨c,s,z⟩:=z;rw[Qj]at z;obtain⟨bs,n,z⟩:=z;simp only[Qr]at z;obtain⟨rfl,rfl⟩:=z;refine⟨b,?_⟩;have v:∀fr,(FQ g k F).ex [.slice nl t xs,.fn q caps] m fr=some (.int .i64 (Bm bs),[]):=by
     grind [FQ]
    unfold aIo;simp only[↓C2,G8,Hj,simprocAttr,AG a,v];exact⟨by rw[←GQ],λi o x h=>h⟩
   ·cases z
  ·cases z
def aNf:=y0 f248 [] []
def aNe:=y0 f249 [] []
def aN3:=y0 f187 [] []
def aN2:=y0 f188 [] []
def N0{S:GZ}{P:Program}{f:FuncId}{N:Nat}{t:DC}{rs:List RV}{F:D->D->Option D}(g:GZ.ok P S)(e:Fn P f N t rs)
  (n:∀x caps m fr c d,FS m caps=some c->F c x=some d->(∀k i o,(k::fr)<:+i->m i o=none)->caps.length<=1->(caps.length+1<=N)∧t.wp S fr (Ee rs λb m'=>b=d∧∀i o y,m i o=some y->m' i o=some y) ⟨BL (x::caps),m,0⟩):(IY F).ok P f:=by
 refine NH g e (λds m m' fr h=>?_) (λds m fr r u z v=>?_)
 ·grind [IY,RS]
 ·simp only[IY]at z;split at z
  ·rename_i x caps;rw[QB]at z;obtain⟨c,s,z⟩:=z;rw[Qj]at z;obtain⟨d,p,z⟩:=z;simp only[Qr]at z;obtain⟨rfl,rfl⟩:=z;have hl:caps.length<=1:=by
    unfold FS at s;split at s
    ·simp
    ·simp
    ·cases s
   obtain⟨q,w⟩:=n x caps m fr c d s p v hl;exact⟨q,w⟩
  ·cases z
def RR{m:G6}{caps:List D}{p:Bs}(h:FS m caps=some (.str p)):∃i,caps=[.ptr i 0]∧m i 0=some (.str p):=by
 unfold FS at h;split at h
 ·cases h
 ·exact⟨_,rfl,h⟩
 ·cases h
def zB:D->D->Option D
 | .str p,.agg [.str q,.int .u8 _]=>some (.bool (decide (q=p)))
 |_,_=>none
def aFU:D->D->Option D
 | .str p,.agg [.str q,.int .i64 _,.bool _]=>some (.bool (decide (q=p)))
 |_,_=>none
def zE:D->D->Option D
 | .str p,.str q=>some (.bool (Ch p q||Ch q p))
 |_,_=>none
def aQV:(IY zB).ok Qg 292:=by
 refine N0 (S:=λ_=>none) A6 (Ai func292:Fn Qg 292 9 aL4 [.t 3]) (λx caps m fr c d s z v hl=>⟨O,?_⟩);unfold zB at z;split at z
 ·rename_i p q k;simp only[Qb]at z;subst z;obtain⟨i,rfl,j⟩:=RR s;have hi:i≠0::fr:=by rintro rfl;have:=v 0 (0::fr) 0 (Zq _);rw[j]at this;cases this
  unfold aL4;simp only[↓C2,Hf,simprocAttr,j,hi,Ah];intro i o y h;split
  ·grind
  ·exact h
 ·cases z
def aQZ:(IY aFU).ok Qg 248:=by
 refine N0 (S:=λ_=>none) A6 (Ai func248:Fn Qg 248 8 aNf [.t 3]) (λx caps m fr c d s z v hl=>⟨O,?_⟩);unfold aFU at z;split at z
 ·rename_i p q k b;simp only[Qb]at z;subst z;obtain⟨i,rfl,j⟩:=RR s;have hi:i≠0::fr:=by rintro rfl;have:=v 0 (0::fr) 0 (Zq _);rw[j]at this;cases this
  unfold aNf;simp only[↓C2,Hf,simprocAttr,j,hi,Ah];intro i o y h;split
  ·grind
  ·exact h
 ·cases z
def aQY:(IY zE).ok Qg 249:=by
 obtain⟨S,g,hl⟩:=Bp (Aa aK5 Ad);have a:=hl 161 _ rfl;clear hl;refine N0 (S:=S) g (Ai func249:Fn Qg 249 12 aNe [.t 3]) (λx caps m fr c d s z v hl=>⟨O,?_⟩);unfold zE at z;split at z
 ·rename_i p q;simp only[Qb]at z;subst z;obtain⟨i,rfl,j⟩:=RR s;have k:∀p q,zK [.str p,.str q]=some (.bool (Ch p q)):=λ_ _=>rfl
  unfold aNe;cases h1:Ch p q with
  |false=>simp only[↓C2,G_,simprocAttr,j,Ab a,k,h1];simp
  |true=>simp only[↓C2,G_,simprocAttr,j,Ab a,k,h1];simp
 ·cases z
def aVW:Fn Qg 247 19 (dcI 3 (some 3)) [.t 4]:=⟨f247,_,func247,rfl,Z,rfl,Z,Z⟩
def aLI:Fn Qg 181 19 (dcI 1 none) [.t 4]:=⟨f181,_,func181,rfl,Z,rfl,Z,Z⟩
def aVT:Fn Qg 293 19 (dcI 1 none) [.t 4]:=⟨f293,_,func293,rfl,Z,rfl,Z,Z⟩
def aLM:Fn Qg 118 9 (aIo 181) [.t 4]:=⟨f118,_,func118,rfl,Z,rfl,Z,Z⟩
def aVU:Fn Qg 240 9 (aIo 293) [.t 4]:=⟨f240,_,func240,rfl,Z,rfl,Z,Z⟩
def aQA:(FQ 292 (some 2) zB).ok Qg 321:=NP O (Ai func321:Fn Qg 321 19 aWi [.t 4]) rfl aQV
def aWu:(iI 292 (some 2) zB).ok Qg 291:=qY O (Ai func291:Fn Qg 291 9 aWk [.t 4]) aQA
def aQE:(FQ 248 (some 3) aFU).ok Qg 247:=NP O aVW rfl aQZ
def aQD:(FQ 249 none zE).ok Qg 181:=NP O aLI rfl aQY
def aWw:(iI 249 none zE).ok Qg 118:=qY O aLM aQD
abbrev Rl:=Bs×Int
def rlD(r:Rl):D:= .agg [.str r.1,.int .u8 r.2]
def Ar(l:List Rl):List D:=l.map rlD
def rlT:D->Rl
 | .agg [.str q,.int .u8 k]=>(q,k)
 |_=>([],0)
def Br(xs:List D):List Rl:=xs.map rlT
theorem A2(l:List Rl):Br (Ar l)=l:=by
 simp only[Br,Ar,QI]
 conv=>rhs;rw[←ZB l]
 exact QC λr _=>rfl
def CZ(l:List Rl)(j:Nat):Rl:=l.getD j ([],0)
theorem A_(l:List Rl):(Ar l).length=l.length:=Qw ..
def O2{l:List Rl}{j:Nat}(h:j<l.length):(Ar l)[j]?=some (rlD (CZ l j)):=by
 grind [Ar,CZ]
def Lj(l:List Rl)(j:Nat):(Ar l).take j=Ar (l.take j):=(ZJ ..).symm
def aAR(l:List Rl):(Ar l).all (qJ (some 2))=true:=by
 rw[Qs];intro x q;obtain⟨r,_,rfl⟩:=Q_.1 q;rfl
def Tg(l:List Rl):aD (Ar l) 2=2:=Xy
def aAi(l:List Rl)(q:Bs):Bool:=l.any λr=>decide (r.1=q)
def Ic(r:Rl)(l:List Rl):Int:=if r.1≠[]∧AF r.1≠0 then AF r.1 else if 63<r.2 then 2 else if aAi l r.1=true then 20 else 0
def D8(l:List Rl):Nat->Nat->Int
 |0,_=>0
 |f+1,j=>if j<l.length then(if Ic (CZ l j) (l.take j)≠0 then Ic (CZ l j) (l.take j)else D8 l f (j+1))else 0
def Cg(l:List Rl):Int:=if 4<l.length then 24 else D8 l l.length 0
def Cv(l:List Rl):Prop:=∀r∈l,r.1.length<=1000000
def bW{l:List Rl}(h:Cv l){j:Nat}(d:j<l.length):(CZ l j).1.length<=1000000:=by
 have:CZ l j=l[j]:=by simp[CZ,Qc d]
 rw[this];exact h _ (Zf d)
def Dx(bs:List Bool):FJ (bs.map λb=>some (.bool b))=some bs:=by
 induction bs with
 |nil=>rfl
 |cons b r ih=>simp only[Q0,FJ,ih,QM]
def aDZ{l:List Rl}{nl:Bool}{t:Id}(hl:l.length<=1000000){q:Bs}(m:G6)(fr i:Id)(j:m i 0=some (.str q)):
  (iI 292 (some 2) zB).ex [.slice nl t (Ar l),.fn 292 [.ptr i 0]] m fr=some (.bool (aAi l q),[]):=by
 have e:(Ar l).map (zB (.str q))=(l.map λr=>decide (r.1=q)).map λb=>some (.bool b):=by
  simp only[Ar,QI];exact QC λr _=>rfl
 simp only[iI,A_,hl,aAR,and_self,if_true,FS,j,Qh,e,Dx,QM];simp only[aAi,ZN];rfl
open Classical in
def aF5:List D->Option D
 |[.agg [.str q,.int .u8 k],.slice _ _ xs]=>if xs=Ar (Br xs)∧xs.length<=1000000∧q.length<=1000000 then some (.int .i64 (Ic (q,k) (Br xs)))else none
 |_=>none
def aTC:Kq aF5 239:=by
 obtain⟨S,g,hl⟩:=Bp (Aa pF (Aa aWu Ad));have m:=hl 107 _ rfl;have b:=hl 291 _ rfl;clear hl;refine AM (S:=S) g (Ai func239:Fn Qg 239 21 aMs [.t 4]) (λds r h=>?_) (λds r h=>?_)
 ·unfold aF5 at h;split at h
  ·simp
  ·cases h
 ·unfold aF5 at h;split at h
  ·rename_i q k nl t xs;split at h
   ·rename_i w;obtain⟨d,o,y⟩:=w;simp only[Qb]at h;subst h;generalize Br xs=l at d;subst d;rw[A_]at o;have a:iE [.str q]=some (.int .i64 (AF q)):=if_pos y;unfold aMs Ic;generalize AF q=e at *;simp only[↓C2,G8,H_,simprocAttr,Ah,QV,QZ,Qm,Qq,Qv,Qx,and_self]
    repeat' (first|(refine aF (λh=>?_) (λh=>?_)<;>try (exfalso;omega))|(simp only[↓C2,Hf,simprocAttr,h,Ah,Qd,Ab m,a,AG b,aDZ (q:=q) o]))
    all_goals (first|rfl|(rw[D.int.injEq];refine⟨rfl,?_⟩;(repeat' split)<;>first|rfl|(exfalso;simp_all;done)|(exfalso;simp_all;omega)))
   ·cases h
  ·cases h
open Classical in
def aKc{q:Bs}{k:Int}{nl:Bool}{t:Id}{l:List Rl}(hl:l.length<=1000000)(y:q.length<=1000000):aF5 [.agg [.str q,.int .u8 k],.slice nl t (Ar l)]=some (.int .i64 (Ic (q,k) l)):=by
 have h:Ar l=Ar (Br (Ar l))∧(Ar l).length<=1000000∧q.length<=1000000:=⟨by rw[A2],by rw[A_];exact hl,y⟩;show(if _ then _ else _)=_;rw[if_pos h,A2]
def aHO{S:GZ}{ns:Id}{l:List Rl}{nl:Bool}{t:Id}{Q:Ex->St->Prop}{e:Int}(a:S 239=some (Ac aF5))(m:l.length<=4)(w:Cv l)
  (pa:∀y,e≠0->y.s 2= .int .i64 e->Q .ret y) (p:∀y,e=0->Q (.exit 0) y):
  ∀(f j:Nat) y g,l.length=j+f->D8 l f j=e->y.s 0= .slice nl t (Ar l)->y.s 9= .slice nl t (Ar l)->y.s 10= .int .i64 (l.length:Int)->y.s 11= .int .i64 (j:Int)->Ba S ns Ph Q y g:=by
 intro f;induction f with
 |zero=>
  intro j y g hf v z h9 n ma;refine Af Ph.eq_1 ?_;have:¬((j:Int)<l.length):=O
  simp only[↓C2,G8,Hj,reduceIte,Qf,n,ma,this];exact p _ v.symm
 |succ f ih=>
  intro j y g hf v z h9 n ma;refine Af Ph.eq_1 ?_;unfold D8 at v;have d:j<l.length:=O
  rw[if_pos d]at v;have u:((j:Int)<l.length):=O
  have oa:=nJ (j:=j);have ra:((j:Int)<=l.length):=O
  have hw:=wJ (j:=j) O;have x:=O2 d;have hq:=bW w d;generalize i:CZ l j=r at v x hq;obtain⟨q,k⟩:=r;have b:(Ar l)[j]?=some (.agg [.str q,.int .u8 k]):=x;have hF:=aKc (nl:=nl) (t:=[]) (l:=l.take j) (q:=q) (k:=k) Xb hq;generalize Ic (q,k) (l.take j)=e' at v hF;obtain⟨ka,o,c⟩:=y;simp only at z h9 n ma;simp only[↓C2,Hf,simprocAttr,z,h9,n,ma,u,oa,ra,Qi,b,A_,Tg,Lj,Ab a,hF,Ah,Au,Av,Qd,Qh,Qt,Qy,Ql,QA];refine AV ?_;simp only[↓C2,G8,H_,simprocAttr,Lj,QA];refine aF (λh=>?_) (λh=>?_)
  ·rw[if_neg Xl]at v;simp only[↓C2,G8,H_,simprocAttr,ma,Lj,QA,hw];exact ih (j+1) _ _ O v z h9 n rfl
  ·rw[if_pos h]at v;simp only[↓C2,G8,H_,simprocAttr,Lj,QA];exact pa _ (v▸h) (by rw[←v];rfl)
open Classical in
def zF:List D->Option D
 |[.slice _ _ xs]=>if xs=Ar (Br xs)∧xs.length<=1000000∧Cv (Br xs)then some (.int .i64 (Cg (Br xs)))else none
 |_=>none
open Classical in
def Wg{nl:Bool}{t:Id}{l:List Rl}(hl:l.length<=1000000)(c:Cv l):zF [.slice nl t (Ar l)]=some (.int .i64 (Cg l)):=by
 have h:Ar l=Ar (Br (Ar l))∧(Ar l).length<=1000000∧Cv (Br (Ar l)):=by rw[A2,A_];exact⟨rfl,hl,c⟩
 show(if _ then _ else _)=_;rw[if_pos h,A2]
open Classical in
theorem iB{ds:List D}{r:D}(h:zF ds=some r):∃nl t l,ds=[.slice nl t (Ar l)]∧l.length<=1000000∧Cv l∧r= .int .i64 (Cg l):=by
 unfold zF at h;split at h
 ·rename_i nl t xs;split at h
  ·rename_i w;obtain⟨u,f,i⟩:=w;simp only[Qb]at h;subst h;refine⟨nl,t,Br xs,by rw[←u],?_,i,rfl⟩;rw[u,A_]at f;exact f
  ·cases h
 ·cases h
def cD:Kq zF 168:=by
 obtain⟨S,g,hl⟩:=Bp (Aa aTC Ad);have a:=hl 239 _ rfl;clear hl;refine AM (S:=S) g (Ai func168:Fn Qg 168 25 aM8 [.t 2]) (λds r h=>?_) (λds r h=>?_)
 ·grind [iB]
 ·obtain⟨nl,t,l,rfl,hl,c,rfl⟩:=iB h;unfold aM8 Cg;by_cases p:4<l.length
  ·have k:((4:Int)<l.length):=by omega
   simp only[↓C2,G_,simprocAttr,A_,k,p]
  ·have k:¬((4:Int)<l.length):=by omega
   simp only[↓C2,G8,Hj,simprocAttr,A_,k];refine aHO (l:=l) (nl:=nl) (t:=t) (e:=D8 l l.length 0) a O c (λy u f=>?_) (λy u=>?_) l.length 0 _ _ O rfl rfl rfl rfl rfl
   ·simp only[↓C2,G_,f];rw[if_neg p]
   ·simp only[↓C2,G_,reduceIte,Qf,u];rw[if_neg p]
def WF{k:IntKind}{a b:Int}:AP .andNot (.int k a) (.int k b)=some (.int k (bits .andNot k a b)):=Xn
def eA(a c:Nat):Bool:=Nat.beq (Zr c (255-a)) 0
def aXH{x:Nat}(h:x<256):IntKind.u8.wrap (x:Int)=x:=by
 simp only[IntKind.wrap,IntKind.signed,IntKind.bits,Za,QR,if_false];omega
def R2{a c:Nat}(p:a<256)(w:c<256):bits .andNot .u8 (c:Int) (a:Int)=((Zr c (255-a):Nat):Int):=by
 have u:(BitVec.ofInt 8 (c:Int)).toNat=c:=by rw[BitVec.toNat_ofInt];omega
 have f:(BitVec.ofInt 8 (a:Int)).toNat=a:=by rw[BitVec.toNat_ofInt];omega
 have i:(BitVec.ofInt 8 (c:Int)&&& ~~~ BitVec.ofInt 8 (a:Int)).toNat=Zr c (255-a):=by
  rw[BitVec.toNat_and,BitVec.toNat_not,u,f];rfl
 have e:Zr c (255-a)<=c:=Nat.and_le_left;show IntKind.u8.wrap ((BitVec.ofInt 8 (c:Int)&&& ~~~ BitVec.ofInt 8 (a:Int)).toNat:Int)=_;rw[i];generalize Zr c (255-a)=x at e;exact aXH O
structure RI (fr r:Id) (m0 m:G6) (l:List Bs) (j:Nat):Prop where
 row:∀i,i<l.length->m r i=some (.str (if i<j then l.getD i []else []))
 out:∀i o,¬fr<:+i->m i o=m0 i o
def RI.put{fr r:Id}{m0 m:G6}{l:List Bs}{j k o:Nat}{ds:List D}(h:RI fr r m0 m l j)(n:(k::fr)≠r):RI fr r m0 (m.put (k::fr) o ds) l j:=by
 refine⟨λi hi=>?_,λi o' g=>?_⟩
 ·rw[aA (λe=>n e.symm)];exact h.row i hi
 ·rw[aA (λe=>g Yo)];exact h.out i o' g
def RI.fill{fr r:Id}{m0 m:G6}{l:List Bs}{j:Nat}(h:RI fr r m0 m l j)(x:fr<:+r):RI fr r m0 (m.put r j [.str (l.getD j [])]) l (j+1):=by
 refine⟨λi hi=>?_,λi o' g=>?_⟩
 ·rw[Ah];by_cases e:i=j
  ·simp_all
  ·rw[if_neg Xb,h.row i hi];by_cases f:i<j
   ·rw[if_pos f,if_pos O]
   ·rw[if_neg f,if_neg O]
 ·rw[aA (λe=>g (by rw[e];exact x))];exact h.out i o' g
theorem RI.start{fr:Id}{m:G6}{l:List Bs}{k n:Nat}(g:n=l.length):RI fr (k::fr) m (m.put (k::fr) 0 (Q7 n (.str []))) l 0:=by
 subst g;refine⟨λi hi=>?_,λi o g=>aA (λe=>g Yo)⟩;rw[Ah,if_pos ⟨rfl,O,by simp;exact hi⟩,if_neg O];simp[hi]
def RI.fin{fr r:Id}{m0 m:G6}{l:List Bs}(h:RI fr r m0 m l l.length)(e:∀i o,fr<:+i->m0 i o=none):
  (∀(j:Nat) x,(l.map D.str)[j]?=some x->m r j=some x)∧∀i o x,m0 i o=some x->m i o=some x:=by
 refine⟨λj x q=>?_,λi o x q=>?_⟩
 ·have d:j<l.length:=by have:=(Qo.1 q).1;simpa using this
  rw[h.row j d,if_pos d];simp[d]at q;simp[d,q]
 ·rw[h.out i o (λz=>by rw[e i o z]at q;cases q)];exact q
def UL(F:List D->Option (List Bs)):HF where
 rd:=λ_ _=>[]
 ex:=λds _ _=>(F ds).map λl=>(.slice false [] (l.map .str),[])
def oT{S:GZ}{P:Program}{f:FuncId}{N:Nat}{dc:DC}{rs:List RV}{F:List D->Option (List Bs)}(g:GZ.ok P S)(hf:Fn P f N dc rs)
  (za:∀ds l m fr,F ds=some l->(∀i o,fr<:+i->m i o=none)->ds.length<=N∧dc.wp S fr (Ee rs λd m'=>∃i,d= .row i l.length∧fr<:+i∧RI fr i m m' l l.length) ⟨BL ds,m,0⟩):(UL F).ok P f:=by
 refine aHs g hf (λ_ _ _ _ _=>rfl) (λds m fr r u z v=>?_);simp only[UL,Qj,Qr]at z;obtain⟨l,hl,rfl,rfl⟩:=z;obtain⟨q,y⟩:=za ds l m fr hl v;refine⟨q,U,l.map .str,rfl,?_,?_⟩
 ·intro x n;obtain⟨s,_,rfl⟩:=Q_.1 n;exact⟨rfl,rfl⟩
 ·refine Mc y (λe p h=>?_);obtain⟨a,d,t,i,b,j,c⟩:=h;exact⟨a,d,t,i,by simpa using b,j,(c.fin v).1,λi o x n=>(c.fin v).2 i o x n⟩
open Classical in
def aGc:List D->Option (List Bs)
 |[.slice _ _ xs]=>if xs=Ar (Br xs)∧xs.length<=1000000 then some ((Br xs).map (·.1))else none
 |_=>none
open Classical in
theorem aKr{nl:Bool}{t:Id}{l:List Rl}(hl:l.length<=1000000):aGc [.slice nl t (Ar l)]=some (l.map (·.1)):=by
 have h:Ar l=Ar (Br (Ar l))∧(Ar l).length<=1000000:=by rw[A2,A_];exact⟨rfl,hl⟩
 show(if _ then _ else _)=_;rw[if_pos h,A2]
open Classical in
def aGb{ds:List D}{r:List Bs}(h:aGc ds=some r):∃nl t l,ds=[.slice nl t (Ar l)]∧l.length<=1000000∧r=l.map (·.1):=by
 unfold aGc at h;split at h
 ·rename_i nl t xs;split at h
  ·rename_i w;obtain⟨u,f⟩:=w;simp only[Qb]at h;subst h;refine⟨nl,t,Br xs,by rw[←u],?_,rfl⟩;rw[u,A_]at f;exact f
  ·cases h
 ·cases h
def aHQ{S:GZ}{fr:Id}{l:List Rl}{nl:Bool}{t:Id}{m0:G6}{k:Nat}{Q:Ex->St->Prop}(hb:l.length<=1000000)
  (p:∀y,y.s 3= .row (k::fr) l.length->RI fr (k::fr) m0 y.m (l.map (·.1)) l.length->Q (.exit 0) y):
  ∀(f j:Nat) y g,l.length=j+f->k<y.c->y.s 3= .row (k::fr) l.length->y.s 9= .slice nl t (Ar l)->y.s 10= .int .i64 (l.length:Int)->y.s 11= .int .i64 (j:Int)->RI fr (k::fr) m0 y.m (l.map (·.1)) j->Ba S fr Pj Q y g:=by
 intro f;induction f with
 |zero=>
  intro j y g e w i h9 n a I;refine Af Pj.eq_1 ?_;have:¬((j:Int)<l.length):=O
  simp only[↓C2,G8,Hj,reduceIte,Qf,n,a,this];exact p _ i X5
 |succ f ih=>
  intro j y g e w i h9 n a I;refine Af Pj.eq_1 ?_;have d:j<l.length:=O
  have u:((j:Int)<l.length):=O
  have oa:=nJ (j:=j);have hw:=wJ (j:=j) O;have x:(Ar l)[j]?=some (.agg [.str (CZ l j).1,.int .u8 (CZ l j).2]):=O2 d;have hg:(l.map (·.1)).getD j []=(CZ l j).1:=by simp[CZ,Qc d]
  generalize CZ l j=r at x hg;have o:((y.c+1+3)::fr=k::fr)=False:=eq_false Xb;have z:(k::fr=(y.c+1+3)::fr)=False:=eq_false Xb;have v:=I.row j Xv;rw[if_neg O]at v;obtain⟨ka,b,q⟩:=y;simp only at i h9 n a w o z v I;simp only[↓C2,Hf,reduceIte,Qe,Qf,i,h9,n,a,u,oa,hw,Qi,x,z,v,Qz,false_and,Ah,Au,Av,QK,Qd,Qh,Qt,Qy,Ql];refine ih (j+1) _ _ O Xa i h9 n rfl ?_;rw[←hg];exact((I.put Xb).put Xb).fill (QH _ _)
def aTX:(UL aGc).ok Qg 94:=by
 refine oT (S:=λ_=>none) A6 (Ai func94:Fn Qg 94 23 aNj [.t 2]) (λds r m fr h v=>?_);obtain⟨nl,t,l,rfl,hl,rfl⟩:=aGb h;refine⟨U,?_⟩;have ia:((0:Int)<=(l.length:Int)):=O
 have ta:((l.length:Int)*(((16:Nat):Int)+1)<=140737488355328)=True:=eq_true O;unfold aNj;simp only[↓C2,G8,H_,reduceIte,Qe,Qf,ia,ta,A_,Qi,ZC,Qm,Qq,Qv,and_self];refine aHQ (l:=l) (nl:=nl) (t:=t) (m0:=m) (k:=3) hl (λy u f=>?_) l.length 0 _ _ O Xa rfl rfl rfl rfl ?_
 ·simp only[↓C2,G8,reduceIte,Qe,Qf,u,Qw];exact⟨_,rfl,QH _ _,f⟩
 ·exact RI.start U
def Om(s:Bs)(l:List Bs):Nat->Nat->Int->Int->Int
 |0,_,b,_=>b
 |f+1,j,b,n=>if n<((l.getD j []).length:Int)∧Ch s (l.getD j [])=true then Om s l f (j+1) j (l.getD j []).length else Om s l f (j+1) b n
def Gj(s:Bs)(l:List Bs):Int:=Om s l l.length 0 (-1) (-1)
def aHR{S:GZ}{ns:Id}{s:Bs}{l:List Bs}{nl:Bool}{t:Id}{Q:Ex->St->Prop}{e:Int}(a:S 161=some (Ac zK))(m:l.length<=1000000)
  (q:∀y,y.s 5= .int .i64 e->Q (.exit 0) y):
  ∀(f j:Nat)(b n:Int) y g,l.length=j+f->Om s l f j b n=e->y.s 0= .str s->y.s 5= .int .i64 b->y.s 6= .int .i64 n->y.s 9= .slice nl t (l.map .str)->y.s 10= .int .i64 (l.length:Int)->y.s 11= .int .i64 (j:Int)->Ba S ns Pk Q y g:=by
 intro f;induction f with
 |zero=>
  intro j b n y g hf v z h5 h6 h9 r i;refine Af Pk.eq_1 ?_;have:¬((j:Int)<l.length):=O
  simp only[↓C2,G8,Hj,reduceIte,Qf,r,i,this];exact q _ (by rw[←v];exact h5)
 |succ f ih=>
  intro j b n y g hf v z h5 h6 h9 r i;refine Af Pk.eq_1 ?_;unfold Om at v;have d:j<l.length:=O
  have u:((j:Int)<l.length):=O
  have oa:=nJ (j:=j);have hw:=wJ (j:=j) O;have x:(l.map D.str)[j]?=some (.str (l.getD j [])):=by simp[d]
  generalize l.getD j []=p at x v;have k:zK [.str s,.str p]=some (.bool (Ch s p)):=rfl;obtain⟨w,fa,c⟩:=y;simp only at z h5 h6 h9 r i;by_cases o:n<(p.length:Int)
  ·cases hp:Ch s p with
   |true=>
    rw[if_pos ⟨o,hp⟩]at v;simp only[↓C2,G_,simprocAttr,z,h9,r,i,h6,u,oa,hw,Qi,x,Ab a,k,Qm,Qq,Qv,QN,o,hp];exact ih (j+1) _ _ _ _ O v z rfl rfl h9 r rfl
   |false=>
    rw[if_neg (by rw[hp];simp)]at v;simp only[↓C2,G_,simprocAttr,z,h9,r,i,h6,u,oa,hw,Qi,x,Ab a,k,Qm,Qq,Qv,QN,o,hp];exact ih (j+1) _ _ _ _ O v z h5 h6 h9 r rfl
  ·rw[if_neg (λh=>o h.1)]at v;simp only[↓C2,G_,simprocAttr,h9,r,i,h6,u,oa,hw,Qi,x,Qm,Qq,Qv,QN,o];exact ih (j+1) _ _ _ _ O v z h5 h6 h9 r rfl
def zM:List D->Option D
 |[.str s,.slice _ _ xs]=>(GG xs).bind λl=>if l.length<=1000000 then some (.int .i64 (Gj s l))else none
 |_=>none
def aKs{s:Bs}{nl:Bool}{t:Id}{l:List Bs}(hl:l.length<=1000000):zM [.str s,.slice nl t (l.map .str)]=some (.int .i64 (Gj s l)):=by
 grind [zM,GF]
def aTY:Kq zM 93:=by
 obtain⟨S,g,hl⟩:=Bp (Aa aK5 Ad);have a:=hl 161 _ rfl;clear hl;refine AM (S:=S) g (Ai func93:Fn Qg 93 30 aNk [.t 4]) (λds r h=>?_) (λds r h=>?_)
 ·unfold zM at h;split at h
  ·simp
  ·cases h
 ·unfold zM at h;split at h
  ·rename_i s nl t xs;rw[QB]at h;obtain⟨l,j,h⟩:=h;obtain rfl:=Ft j;split at h
   ·rename_i hl;simp only[Qb]at h;subst h;unfold aNk;simp only[↓C2,G8,simprocAttr,Qw];refine aHR (s:=s) (l:=l) (nl:=nl) (t:=t) (e:=Gj s l) a hl (λy u=>?_) l.length 0 _ _ _ _ O rfl rfl rfl rfl rfl rfl rfl;simp only[↓C2,G_,simprocAttr,u]
   ·cases h
  ·cases h
def Db(l:List Rl)(s:Bs):Int:=if Gj s (l.map (·.1))<0 then 0 else(CZ l (Gj s (l.map (·.1))).toNat).2
def Ri(s:Bs)(l:List Bs):∀(f j:Nat)(b n:Int),l.length=j+f->b<l.length->Om s l f j b n<l.length
 |0,j,b,n,hf,hb=>by simpa[Om]using hb
 |f+1,j,b,n,hf,hb=>by
  unfold Om;split
  ·exact Ri s l f (j+1) _ _ O O
  ·exact Ri s l f (j+1) _ _ O hb
def dF(s:Bs)(l:List Bs):Gj s l<l.length:=Ri s l _ _ _ _ O O
open Classical in
def F95:List D->Option D
 |[.slice _ _ xs,.str s]=>if xs=Ar (Br xs)∧xs.length<=1000000 then some (.int .u8 (Db (Br xs) s))else none
 |_=>none
open Classical in
def nN{nl:Bool}{t:Id}{l:List Rl}{s:Bs}(hl:l.length<=1000000):F95 [.slice nl t (Ar l),.str s]=some (.int .u8 (Db l s)):=by
 have h:Ar l=Ar (Br (Ar l))∧(Ar l).length<=1000000:=by rw[A2,A_];exact⟨rfl,hl⟩
 show(if _ then _ else _)=_;rw[if_pos h,A2]
open Classical in
theorem sT{ds:List D}{r:D}(h:F95 ds=some r):∃nl t l s,ds=[.slice nl t (Ar l),.str s]∧l.length<=1000000∧r= .int .u8 (Db l s):=by
 unfold F95 at h;split at h
 ·rename_i nl t xs s;split at h
  ·rename_i w;obtain⟨u,f⟩:=w;simp only[Qb]at h;subst h;refine⟨nl,t,Br xs,s,by rw[←u],?_,rfl⟩;rw[u,A_]at f;exact f
  ·cases h
 ·cases h
def aPv:Kq F95 41:=by
 obtain⟨S,g,hl⟩:=Bp (Aa aTX (Aa aTY Ad));have b:=hl 94 _ rfl;have d:=hl 93 _ rfl;clear hl;refine AM (S:=S) g (Ai func41:Fn Qg 41 17 aV1 [.t 4]) (λds r h=>?_) (λds r h=>?_)
 ·grind [sT]
 ·obtain⟨nl,t,l,s,rfl,hl,rfl⟩:=sT h;have c:∀m fr,(UL aGc).ex [.slice nl t (Ar l)] m fr=some (.slice false [] ((l.map (·.1)).map .str),[]):=by
   grind [UL,aKr]
  have a:zM [.str s,.slice false [] ((l.map (·.1)).map .str)]=some (.int .i64 (Gj s (l.map (·.1)))):=aKs Xk;have ia:((l.map (·.1)).map D.str).all D.calm=true:=X9
  have o:((l.map (·.1)).map D.str).map D.un=(l.map (·.1)).map D.str:=by rw[QI];exact QC λ_ _=>rfl
  unfold aV1 Db;have u:=dF s (l.map (·.1));rw[Qw]at u;generalize Gj s (l.map (·.1))=i at a u;by_cases hi:i<0
  ·simp only[↓C2,G_,simprocAttr,AG b,c,Ab d,a,hi]
  ·obtain⟨j,rfl⟩:=QX (show 0<=i by omega);have e:j<l.length:=by omega
   have k:=nJ (j:=j);have v:(Ar l)[j]?=some (.agg [.str (CZ l j).1,.int .u8 (CZ l j).2]):=O2 e;simp only[↓C2,G_,simprocAttr,AG b,c,Ab d,a,hi,k,Qi,v,Qm,Qq,Qv,and_self,QA,QD,QN]
def Nj(l:List Rl)(s:Bs)(c:Int):Bool:=eA (Db l s).toNat c.toNat
def Gv(l:List Rl):Prop:=∀r∈l,0<=r.2∧r.2<256
open Classical in
def aF9:List D->Option D
 |[.slice _ _ xs,.str s,.int .u8 k]=>if xs=Ar (Br xs)∧xs.length<=1000000∧Gv (Br xs)∧Cv (Br xs)∧s.length<=1000000∧0<=k∧k<256 then some (.bool (Nj (Br xs) s k))else none
 |_=>none
open Classical in
def aKo{nl:Bool}{t:Id}{l:List Rl}{s:Bs}{k:Int}(hl:l.length<=1000000)(w:Gv l)(c:Cv l)(j:s.length<=1000000)(z:0<=k)(u:k<256):aF9 [.slice nl t (Ar l),.str s,.int .u8 k]=some (.bool (Nj l s k)):=by
 have h:Ar l=Ar (Br (Ar l))∧(Ar l).length<=1000000∧Gv (Br (Ar l))∧Cv (Br (Ar l))∧s.length<=1000000∧0<=k∧k<256:=by rw[A2,A_];exact⟨rfl,hl,w,c,j,z,u⟩
 show(if _ then _ else _)=_;rw[if_pos h,A2]
open Classical in
theorem iD{ds:List D}{r:D}(h:aF9 ds=some r):∃nl t l s k,ds=[.slice nl t (Ar l),.str s,.int .u8 k]∧l.length<=1000000∧Gv l∧Cv l∧s.length<=1000000∧0<=k∧k<256∧r= .bool (Nj l s k):=by
 unfold aF9 at h;split at h
 ·rename_i nl t xs s k;split at h
  ·rename_i w;obtain⟨u,f,i,c,j,p,m⟩:=w;simp only[Qb]at h;subst h;refine⟨nl,t,Br xs,s,k,by rw[←u],?_,i,c,j,p,m,rfl⟩;rw[u,A_]at f;exact f
  ·cases h
 ·cases h
def rF{l:List Rl}{s:Bs}(w:Gv l):0<=Db l s∧Db l s<256:=by
 unfold Db;have u:=dF s (l.map (·.1));rw[Qw]at u;split
 ·omega
 ·rename_i h;have d:(Gj s (l.map (·.1))).toNat<l.length:=by omega
  have:CZ l (Gj s (l.map (·.1))).toNat=l[(Gj s (l.map (·.1))).toNat]:=by simp[CZ,Qc d]
  rw[this];exact w _ (Zf d)
def aTR:Kq aF9 307:=by
 obtain⟨S,g,hl⟩:=Bp (Aa aPv Ad);have z:=hl 41 _ rfl;clear hl;refine AM (S:=S) g (Ai func307:Fn Qg 307 13 aM7 [.t 6]) (λds r h=>?_) (λds r h=>?_)
 ·grind [iD]
 ·obtain⟨nl,t,l,s,k,rfl,hl,w,hp,j,h0,u,rfl⟩:=iD h;have n:=nN (nl:=nl) (t:=[]) (s:=s) hl;have m:=rF (s:=s) w;have ia:(Ar l).all D.calm=true:=by rw[Qs];intro x q;obtain⟨y,_,rfl⟩:=Q_.1 q;rfl
  have o:(Ar l).map D.un=Ar l:=YN
  unfold aM7 Nj;generalize Db l s=a at n m;obtain⟨a,rfl⟩:=QX m.1;obtain⟨k,rfl⟩:=QX h0;have b:=R2 (a:=a) (c:=k) O O;have f:decide (((Zr k (255-a):Nat):Int)=0)=eA a k:=by
   unfold eA;generalize Zr k (255-a)=x;cases x with
   |zero=>rfl
   |succ x=>simp[Nat.beq];omega
  simp only[↓C2,G_,simprocAttr,Ab z,n,WF,b,f,Qi]
def Rz{m:G6}{e:Nat}{nl:Bool}{t:Id}{xs:List D}:I6 m e (.slice nl t xs)=(nl=true∨(m t 0=some (.tok (e+1))∧t≠[])):=rfl
def Oq{e:Nat}{fr t:Id}{xs:List D}:Be e fr (.slice false t xs)=[(t,0,[.tok 0]),(fr,0,[.tok (e+1)])]:=rfl
def NE(l:List Rl):(Ar l).all D.calm=true:=X9
def UN(l:List Rl):(Ar l).map D.un=Ar l:=YN
def jU(a b:List Rl)(r:Rl):Bool:=eA (Db b r.1).toNat (Db a r.1).toNat
def EU(a b l:List Rl):Nat->Nat->Bool
 |0,_=>true
 |f+1,j=>if jU a b (CZ l j)=true then EU a b l f (j+1)else false
def IW(a b l:List Rl):∀(f j:Nat),l.length=j+f->EU a b l f j=(l.drop j).all (jU a b)
 |0,j,h=>by rw[List.drop_of_length_le O];rfl
 |f+1,j,h=>by
  have d:j<l.length:=O
  have e:CZ l j=l[j]:=by simp[CZ,Qc d]
  unfold EU;rw[IW a b l f (j+1) O,Q4 d,ZI,e];cases jU a b l[j]<;>simp
def GT(a b:List Rl):Bool:=decide (Cg a=0)&&decide (Cg b=0)&&(a++b).all (jU a b)
open Classical in
def aKH:List D->Option D
 |[.slice _ _ xs,.slice _ _ ys]=>if(xs=Ar (Br xs)∧xs.length<=1000000∧Cv (Br xs)∧Gv (Br xs))∧ys=Ar (Br ys)∧ys.length<=1000000∧Cv (Br ys)∧Gv (Br ys)then some (.bool (GT (Br xs) (Br ys)))else none
 |_=>none
open Classical in
def aKG{na nb:Bool}{ta tb:Id}{a b:List Rl}(n:a.length<=1000000)(lb:b.length<=1000000)(o:Cv a)(u:Cv b)(v:Gv a)(k:Gv b):aKH [.slice na ta (Ar a),.slice nb tb (Ar b)]=some (.bool (GT a b)):=by
 have h:(Ar a=Ar (Br (Ar a))∧(Ar a).length<=1000000∧Cv (Br (Ar a))∧Gv (Br (Ar a)))∧Ar b=Ar (Br (Ar b))∧(Ar b).length<=1000000∧Cv (Br (Ar b))∧Gv (Br (Ar b)):=by
  grind [A2,A_]
 show(if _ then _ else _)=_;rw[if_pos h,A2,A2]
open Classical in
theorem iF{ds:List D}{r:D}(h:aKH ds=some r):∃na ta a nb tb b,ds=[.slice na ta (Ar a),.slice nb tb (Ar b)]∧a.length<=1000000∧b.length<=1000000∧Cv a∧Cv b∧Gv a∧Gv b∧r= .bool (GT a b):=by
 unfold aKH at h;split at h
 ·rename_i na ta xs nb tb ys;split at h
  ·rename_i w;obtain⟨⟨u,f,i,p⟩,m,s,k,h8⟩:=w;simp only[Qb]at h;subst h;refine⟨na,ta,Br xs,nb,tb,Br ys,by rw[←u,←m],?_,?_,i,k,p,h8,rfl⟩
   ·rw[u,A_]at f;exact f
   ·rw[m,A_]at s;exact s
  ·cases h
 ·cases h
def aMR:=y0 f58 [] []
def qQ:=y0 f59 [] []
def aLK:Fn Qg 59 12 qQ [.t 4]:=Ai func59
def Pe:=y1 f60 3 [] []
def qP:=y0 f60 [] [(3,Pe)]
def aLJ:Fn Qg 60 23 qP [.t 4]:=Ai func60
def qU:=y0 f25 [(3,[(5,1)])] []
def aLN:Fn Qg 25 52 qU [.t 4]:=Ai func25
def aN4:=y0 f186 [] []
def Ps:=y1 f189 3 [] []
def aN1:=y0 f189 [] [(3,Ps)]
def iC:List D->Option D
 |[.int .i64 n,.int .i64 lo,.int .i64 hi]=>some (.bool (decide (lo<=n∧n<=hi)))
 |_=>none
def aBm:Kq iC 58:=by
 refine AM (S:=λ_=>none) A6 (Ai func58:Fn Qg 58 15 aMR [.t 6]) (λds r h=>?_) (λds r h=>?_)
 ·unfold iC at h;split at h
  ·simp
  ·cases h
 ·unfold iC at h;split at h
  ·rename_i n lo hi;simp only[Qb]at h;subst h;unfold aMR;simp only[↓C2,G8,simprocAttr]
   repeat' (first|(refine aF (λh=>?_) (λh=>?_)<;>try (exfalso;omega))|(simp only[↓C2,G_,simprocAttr,h,and_self,false_and]))
   all_goals (simp_all<;>omega)
  ·cases h
def aKf:List D->Option D
 |[.agg [.int .i64 a,.bool b,.int .i64 c,.slice nl t xs],.agg [.int .i64 q,.bool b2]]=>some (.int .i64 (if a=0 then q else a))
 |_=>none
def aTI:Kq aKf 59:=by
 refine AM (S:=λ_=>none) A6 aLK (λds r h=>?_) (λds r h=>?_)
 ·unfold aKf at h;split at h
  ·simp
  ·cases h
 ·unfold aKf at h;split at h
  ·rename_i a b c nl t xs q m;simp only[Qb]at h;subst h;unfold qQ;simp only[↓C2,Hf,simprocAttr,Ah,Qk,Qn]
   repeat' (first|(refine aF (λh=>?_) (λh=>?_)<;>try (exfalso;omega))|(simp only[↓C2,Hf,simprocAttr,h,Ah,Qk,Qn,QO]))
   all_goals simp_all
  ·cases h
def aKe:List D->Option D
 |[.slice nl t [],.fn g caps]=>some (.bool true)
 |_=>none
def aTH:Kq aKe 60:=by
 refine AM (S:=λ_=>none) A6 aLJ (λds r h=>?_) (λds r h=>?_)
 ·unfold aKe at h;split at h
  ·simp
  ·cases h
 ·unfold aKe at h;split at h
  ·rename_i nl t g caps;simp only[Qb]at h;subst h;unfold qP;simp only[↓C2,G8,simprocAttr,Qq];refine Af Pe.eq_1 ?_;simp only[↓C2,G_,simprocAttr,and_self,Zn,Zk]
  ·cases h
def aKx:List D->Option D
 |[.agg [.int .i64 0,.bool b,.int .i64 0,.slice nl t []],.agg [.int .i64 q,.bool b2]]=>some (.int .i64 (if 1<=q∧q<=6 then 0 else 2))
 |_=>none
def aT2:Kq aKx 25:=by
 obtain⟨S,s,hl⟩:=Bp (Aa aBm (Aa aTI (Aa aTH Ad)));have a:=hl 58 _ rfl;have i:=hl 59 _ rfl;have e:=hl 60 _ rfl;clear hl;refine AM (S:=S) s aLN (λds r h=>?_) (λds r h=>?_)
 ·unfold aKx at h;split at h
  ·simp
  ·cases h
 ·unfold aKx at h;split at h
  ·rename_i b nl t q m;simp only[Qb]at h;subst h;unfold qU;have c:∀n lo hi,iC [.int .i64 n,.int .i64 lo,.int .i64 hi]=some (.bool (decide (lo<=n∧n<=hi))):=λ_ _ _=>rfl
   have d:aKf [.agg [.int .i64 0,.bool b,.int .i64 0,.slice nl [] []],.agg [.int .i64 q,.bool m]]=some (.int .i64 q):=rfl;have f:∀nl t g caps,aKe [.slice nl t [],.fn g caps]=some (.bool true):=λ_ _ _ _=>rfl
   by_cases y:1<=q∧q<=6
   ·have j:¬(q<0):=by omega
    simp only[↓C2,Hf,simprocAttr,Ah,Au,Av,Qd,Qh,Qk,Qn,QO,and_false,Ab a,c,Ab i,d,Ab e,f,y,j,Zk];refine AV ?_;simp only[↓C2,Hf,simprocAttr,Ah,Qd,Qk,Qn,and_false,y,Zn,Zk]
   ·simp only[↓C2,Hf,simprocAttr,Ah,Qk,QO,Ab a,c,y]
  ·cases h
def aNa:=y0 f113 [] []
def aNY:=y0 f62 [] []
def aNZ:=y0 f192 [] []
abbrev Mt:=Bs×Int×Bool
def MF(m:Mt):D:= .agg [.str m.1,.int .i64 m.2.1,.bool m.2.2]
def AA(l:List Mt):List D:=l.map MF
def mtT:D->Mt
 | .agg [.str p,.int .i64 q,.bool b]=>(p,q,b)
 |_=>([],0,false)
def DD(xs:List D):List Mt:=xs.map mtT
def BO(l:List Mt):DD (AA l)=l:=by
 simp only[DD,AA,QI]
 conv=>rhs;rw[←ZB l]
 exact QC λr _=>rfl
theorem AU(l:List Mt):(AA l).length=l.length:=Qw ..
def aBy(l:List Mt):(AA l).all (qJ (some 3))=true:=by
 rw[Qs];intro x q;obtain⟨r,_,rfl⟩:=Q_.1 q;rfl
def Cw(l:List Mt)(j:Nat):Mt:=l.getD j ([],0,false)
def ME{l:List Mt}{j:Nat}(h:j<l.length):(AA l)[j]?=some (MF (Cw l j)):=by
 grind [AA,Cw]
def EE(p:Bs)(q:Int):Int:=if AF p≠0 then AF p else if 1<=q∧q<=6 then 0 else 2
def Cm(l:List Mt)(p:Bs):Int:=Bm (l.map λm=>decide (m.1=p))
def vO{l:List Mt}{nl:Bool}{t:Id}(hl:l.length<=1000000){q:Bs}(m:G6)(fr i:Id)(j:m i 0=some (.str q)):
  (FQ 248 (some 3) aFU).ex [.slice nl t (AA l),.fn 248 [.ptr i 0]] m fr=some (.int .i64 (Cm l q),[]):=by
 have e:(AA l).map (aFU (.str q))=(l.map λr=>decide (r.1=q)).map λb=>some (.bool b):=by
  simp only[AA,QI];exact QC λr _=>rfl
 simp only[FQ,AU,hl,aBy,and_self,if_true,FS,j,Qh,e,Dx,QM];rfl
def MB(s:Bs)(l:List Bs):Bool:=l.any λq=>Ch s q||Ch q s
def aD1{l:List Bs}{nl:Bool}{t:Id}(hl:l.length<=1000000){s:Bs}(m:G6)(fr i:Id)(j:m i 0=some (.str s)):
  (iI 249 none zE).ex [.slice nl t (l.map .str),.fn 249 [.ptr i 0]] m fr=some (.bool (MB s l),[]):=by
 have e:(l.map D.str).map (zE (.str s))=(l.map λq=>Ch s q||Ch q s).map λb=>some (.bool b):=by
  simp only[QI];exact QC λr _=>rfl
 have v:(l.map D.str).all (qJ none)=true:=by
  rw[Qs];intro x d;obtain⟨r,_,rfl⟩:=Q_.1 d;rfl
 simp only[iI,Qw,hl,v,and_self,if_true,FS,j,Qh,e,Dx,QM];simp only[MB,ZN];rfl
def aKO:List D->Option D
 |[.agg [.str p,.int .i64 q,.bool b]]=>if p.length<=1000000 then some (.int .i64 (EE p q))else none
 |_=>none
def aUl:Kq aKO 186:=by
 obtain⟨S,g,hl⟩:=Bp (Aa pF (Aa aT2 Ad));have m:=hl 107 _ rfl;have o:=hl 25 _ rfl;clear hl;refine AM (S:=S) g (Ai func186:Fn Qg 186 14 aN4 [.t 2]) (λds r h=>?_) (λds r h=>?_)
 ·unfold aKO at h;split at h
  ·simp
  ·cases h
 ·unfold aKO at h;split at h
  ·rename_i p q b;split at h
   ·rename_i w;simp only[Qb]at h;subst h;unfold aN4;have a:iE [.str p]=some (.int .i64 (AF p)):=if_pos w;have z:aKx [.agg [.int .i64 0,.bool false,.int .i64 0,.slice true [] []],.agg [.int .i64 q,.bool b]]=some (.int .i64 (if 1<=q∧q<=6 then 0 else 2)):=rfl;unfold EE;generalize AF p=e at *;generalize (if 1<=q∧q<=6 then(0:Int)else 2)=y at *;by_cases v:e=0
    ·subst v;simp only[↓C2,Hf,reduceIte,Qe,Qf,Ah,Au,Av,QK,Qd,Qh,Cn,Ab m,a,Ab o,z,ne_eq]
    ·simp only[↓C2,Hf,reduceIte,Qe,Qf,Ah,QK,Ab m,a,v,ne_eq]
   ·cases h
  ·cases h
open Classical in
def aGl:List D->Option D
 |[.agg [.slice _ _ xs],.str p]=>if xs=AA (DD xs)∧xs.length<=1000000 then some (.int .i64 (Cm (DD xs) p))else none
 |_=>none
open Classical in
def Py{nl:Bool}{t:Id}{l:List Mt}{p:Bs}(hl:l.length<=1000000):aGl [.agg [.slice nl t (AA l)],.str p]=some (.int .i64 (Cm l p)):=by
 have h:AA l=AA (DD (AA l))∧(AA l).length<=1000000:=XP
 show(if _ then _ else _)=_;rw[if_pos h,BO]
def aBo:Kq aGl 187:=by
 obtain⟨S,g,hl⟩:=Bp (Aa aQE Ad);have a:=hl 247 _ rfl;clear hl;refine AM (S:=S) g (Ai func187:Fn Qg 187 9 aN3 [.t 4]) (λds r h=>?_) (λds r h=>?_)
 ·unfold aGl at h;split at h
  ·simp
  ·cases h
 ·unfold aGl at h;split at h
  ·rename_i nl t xs p;split at h
   ·rename_i w;obtain⟨d,o⟩:=w;simp only[Qb]at h;subst h;generalize DD xs=l at d;subst d;rw[AU]at o;unfold aN3;simp only[↓C2,Hf,reduceIte,Qe,Qf,Ah,QK,Qk,Qn,QO,AG a,vO (q:=p) o]
   ·cases h
  ·cases h
def aGk:List D->Option D
 |[.str s,.slice _ _ xs]=>(GG xs).bind λl=>if l.length<=1000000 then some (.bool (MB s l))else none
 |_=>none
def aKN{s:Bs}{nl:Bool}{t:Id}{l:List Bs}(hl:l.length<=1000000):aGk [.str s,.slice nl t (l.map .str)]=some (.bool (MB s l)):=by
 grind [aGk,GF]
def aUk:Kq aGk 188:=by
 obtain⟨S,g,hl⟩:=Bp (Aa aWw Ad);have a:=hl 118 _ rfl;clear hl;refine AM (S:=S) g (Ai func188:Fn Qg 188 8 aN2 [.t 4]) (λds r h=>?_) (λds r h=>?_)
 ·unfold aGk at h;split at h
  ·simp
  ·cases h
 ·unfold aGk at h;split at h
  ·rename_i s nl t xs;rw[QB]at h;obtain⟨l,j,h⟩:=h;obtain rfl:=Ft j;split at h
   ·rename_i hl;simp only[Qb]at h;subst h;unfold aN2;simp only[↓C2,Hf,reduceIte,Qe,Qf,Ah,QK,AG a,aD1 (s:=s) hl]
   ·cases h
  ·cases h
def RI.base{fr r:Id}{m0 a m:G6}{l:List Bs}{j:Nat}(h:RI fr r a m l j)(e:∀i o,¬fr<:+i->a i o=m0 i o):RI fr r m0 m l j:=
 ⟨h.row,λi o g=>(h.out i o g).trans (e i o g)⟩
open Classical in
def aKM:List D->Option (List Bs)
 |[.agg [.slice _ _ xs]]=>if xs=AA (DD xs)∧xs.length<=1000000 then some ((DD xs).map (·.1))else none
 |_=>none
open Classical in
def aKL{nl:Bool}{t:Id}{l:List Mt}(hl:l.length<=1000000):aKM [.agg [.slice nl t (AA l)]]=some (l.map (·.1)):=by
 have h:AA l=AA (DD (AA l))∧(AA l).length<=1000000:=XP
 show(if _ then _ else _)=_;rw[if_pos h,BO]
open Classical in
def aGj{ds:List D}{r:List Bs}(h:aKM ds=some r):∃nl t l,ds=[.agg [.slice nl t (AA l)]]∧l.length<=1000000∧r=l.map (·.1):=by
 unfold aKM at h;split at h
 ·rename_i nl t xs;split at h
  ·rename_i w;obtain⟨u,f⟩:=w;simp only[Qb]at h;subst h;refine⟨nl,t,DD xs,by rw[←u],?_,rfl⟩;rw[u,AU]at f;exact f
  ·cases h
 ·cases h
def aHW{S:GZ}{fr:Id}{l:List Mt}{nl:Bool}{t:Id}{m0:G6}{k:Nat}{Q:Ex->St->Prop}(hb:l.length<=1000000)
  (p:∀y,y.s 3= .row (k::fr) l.length->RI fr (k::fr) m0 y.m (l.map (·.1)) l.length->Q (.exit 0) y):
  ∀(f j:Nat) y g,l.length=j+f->k<y.c->y.s 3= .row (k::fr) l.length->y.s 11= .slice nl t (AA l)->y.s 12= .int .i64 (l.length:Int)->y.s 13= .int .i64 (j:Int)->RI fr (k::fr) m0 y.m (l.map (·.1)) j->Ba S fr Ps Q y g:=by
 intro f;induction f with
 |zero=>
  intro j y g e w i a ia ra I;refine Af Ps.eq_1 ?_;have:¬((j:Int)<l.length):=O
  simp only[↓C2,G8,Hj,reduceIte,Qf,ia,ra,this];exact p _ i X5
 |succ f ih=>
  intro j y g e w i a ia ra I;refine Af Ps.eq_1 ?_;have d:j<l.length:=O
  have u:((j:Int)<l.length):=O
  have oa:=nJ (j:=j);have n:=wJ (j:=j) O;have x:(AA l)[j]?=some (.agg [.str (Cw l j).1,.int .i64 (Cw l j).2.1,.bool (Cw l j).2.2]):=ME d;have hg:(l.map (·.1)).getD j []=(Cw l j).1:=by simp[Cw,Qc d]
  generalize Cw l j=r at x hg;have o:((y.c+1+3)::fr=k::fr)=False:=eq_false Xb;have z:(k::fr=(y.c+1+3)::fr)=False:=eq_false Xb;have v:=I.row j Xv;rw[if_neg O]at v;obtain⟨ka,b,q⟩:=y;simp only at i a ia ra w o z v I;simp only[↓C2,Hf,reduceIte,Qe,Qf,i,a,ia,ra,u,oa,n,Qi,x,z,v,Qz,false_and,Ah,Au,Av,QK,Qd,Qh,Qt,Qy,Ql,false_and];refine ih (j+1) _ _ O Xa i a ia rfl ?_;rw[←hg];exact((I.put Xb).put Xb).fill (QH _ _)
def aUj:(UL aKM).ok Qg 189:=by
 refine oT (S:=λ_=>none) A6 (Ai func189:Fn Qg 189 25 aN1 [.t 2]) (λds r m fr h v=>?_);obtain⟨nl,t,l,rfl,hl,rfl⟩:=aGj h;refine⟨U,?_⟩;have ia:((0:Int)<=(l.length:Int)):=O
 have ta:((l.length:Int)*(((16:Nat):Int)+1)<=140737488355328)=True:=eq_true O;unfold aN1;simp only[↓C2,Hf,reduceIte,Qe,Qf,ia,ta,AU,Qi,ZC,Ah,QK,Qk,false_and];refine aHW (l:=l) (nl:=nl) (t:=t) (m0:=m) (k:=5) hl (λy u f=>?_) l.length 0 _ _ O Xa rfl rfl rfl rfl ?_
 ·simp only[↓C2,G8,reduceIte,Qe,Qf,u,Qw];exact⟨_,rfl,QH _ _,f⟩
 ·exact RI.base (RI.start (by simp[])) (λi o g=>aA (λe=>g Yo))
def aMz:=y0 f61 [] []
def aMg:=y0 f57 [] []
def aMW:=y0 f273 [] []
def aNJ:=y0 Tryz.f219 [(1,[(1,0)])] []
def aMV:=y0 f274 [] []
def aMf:=y0 Tryz.f314 [] []
def aMU:=y0 f275 [(5,[(2,4),(2,6),(6,1),(6,2)]),(7,[(4,2)])] []
def aMe:=y0 f315 [] []
def VK:=y1 f278 4 [] []
def aMQ:=y0 f278 [(1,[(5,1)])] [(4,VK)]
def eZ:=y0 f316 [] []
def aCG:Fn Qg 316 8 eZ [.t 2]:=Ai func316
def aNH:=y0 f222 [] []
def VJ:=y1 f279 8 [] []
def aMO:=y0 f279 [(1,[(1,0)])] [(8,VJ)]
def aMN:=y0 f280 [] []
def aMM:=y0 f281 [] []
def aML:=y0 f282 [] []
def aNF:=y0 f226 [] []
def aNE:=y0 f227 [] []
def aND:=y0 f228 [] []
def aMc:=y0 f318 [] []
def VD:=y1 f343 2 [] []
def aLY:=y0 f343 [] [(2,VD)]
def VG:=y1 f317 5 [(7,[(6,2),(6,8),(9,2)])] []
def aMd:=y0 f317 [(1,[(1,0)]),(3,[(5,1),(5,7),(5,10)])] [(5,VG)]
def aLZ:=y0 f342 [] []
end Go.Vd
namespace Go.Vd
section
variable{α:Type}(lt:α->α->Bool)(d:α)
def swp(xs:List α)(j:Nat):List α:=(xs.set (j+1) (xs.getD j d)).set j (xs.getD (j+1) d)
def Rt(xs:List α):Nat->List α
 |0=>xs
 |j+1=>if lt (xs.getD (j+1) d) (xs.getD j d)=true then Rt (swp d xs j) j else xs
def Dr:Nat->Nat->List α->List α
 |0,_,xs=>xs
 |f+1,i,xs=>Dr f (i+1) (Rt lt d xs i)
def kR(l:List α)(m:α):Nat->Nat
 |0=>0
 |j+1=>if lt m (l.getD j d)=true then kR l m j else j+1
def aLy(l:List α)(m:α):∀j,kR lt d l m j<=j
 |0=>Qz _
 |j+1=>by
  unfold kR;split
  ·exact Nat.le_succ_of_le (aLy l m j)
  ·exact Qz _
def oC(xs:List α)(j:Nat):(swp d xs j).length=xs.length:=by simp[swp]
def Rs:∀(j:Nat)(xs:List α),(Rt lt d xs j).length=xs.length
 |0,xs=>rfl
 |j+1,xs=>by
  unfold Rt;split
  ·rw[Rs j,oC]
  ·rfl
theorem isortR_len:∀(f i:Nat)(xs:List α),(Dr lt d f i xs).length=xs.length
 |0,_,xs=>rfl
 |f+1,i,xs=>by rw[Dr,isortR_len f,Rs]
def aGY(a b:List α)(x y:α):swp d (a++x::y::b) a.length=a++y::x::b:=by
 simp_all [swp]
def dV(l:List α)(m:α):∀(j:Nat)(b:List α),j<=l.length->Rt lt d (l.take j++m::b) j=l.take (kR lt d l m j)++m::((l.take j).drop (kR lt d l m j)++b)
 |0,b,_=>by simp[Rt,kR]
 |j+1,b,h=>by
  have r:(l.take j).length=j:=XE
  have q:l.take (j+1)=l.take j++[l.getD j d]:=by
   rw[Zb O];simp[Zy,Qc (show j<l.length by omega)]
  have e:l.take (j+1)++m::b=l.take j++l.getD j d::m::b:=by rw[q];simp
  have k:(l.take j++l.getD j d::m::b).getD (j+1) d=m:=by
   simp_all
  have x:(l.take j++l.getD j d::m::b).getD j d=l.getD j d:=by
   simp_all
  rw[e];unfold Rt kR;rw[k,x];split
  ·have z:=aGY d (l.take j) b (l.getD j d) m;rw[r]at z;rw[z,dV l m j (l.getD j d::b) O,q];have o:=aLy lt d l m j;rw[List.drop_append_of_le_length O];simp
  ·simp_all
def kY{xs:List α}{i:Nat}(h:lt (xs.getD i d) (xs.getD (i-1) d)=false):Rt lt d xs i=xs:=by
 cases i with
 |zero=>rfl
 |succ j=>
  unfold Rt;rw[Zv]at h;rw[if_neg (by rw[h];exact Bool.false_ne_true)]
def TI(l:List α)(m:α)(j:∀i,i+1<l.length->lt (l.getD (i+1) d) (l.getD i d)=false):
  ∀(f i:Nat),1<=i->i+f=l.length+1->Dr lt d f i (l++[m])=if f=0 then l++[m]else l.take (kR lt d l m l.length)++m::l.drop (kR lt d l m l.length)
 |0,i,_,_=>by simp[Dr]
 |f+1,i,hi,h=>by
  rw[if_neg (Qu f)];unfold Dr;by_cases e:f=0
  ·subst e;have:i=l.length:=by omega
   subst this;have:=dV lt d l m l.length [] (Qz _);simp only[Zp,List.append_nil]at this;unfold Dr;exact this
  ·have g:i<l.length:=by omega
   have r:(l++[m]).getD i d=l.getD i d:=by simp[Zy,QT g]
   have x:(l++[m]).getD (i-1) d=l.getD (i-1) d:=by simp[Zy,QT (show i-1<l.length by omega)]
   rw[kY lt d (by rw[r,x];have:=j (i-1) O;rwa [show i-1+1=i by omega]at this),TI l m j f (i+1) O O,if_neg e]
end
end Go.Vd
namespace Go.Vd
open Go.RowKit
def D.plain:D->Bool
 | .bool _| .int _ _| .str _=>true
 |_=>false
def Rep.plain{w t:World}{g q:Gh}{d:D}{v:Value}(h:Rep w g d v)(c:d.plain=true):Rep t q d v:=by
 cases h with
 |bool b=>exact .bool b
 |int k n=>exact .int k n
 |str s=>exact .str s
 |_=>cases c
def ID(F:List D->Option (List D)):HF where
 rd:=λ_ _=>[]
 ex:=λds _ fr=>if(ds.map D.un).all D.calm=true then(F (ds.map D.un)).map λxs=>(.row fr xs.length,[(fr,0,flat xs)])else none
section
variable{P:Program}{B:Nat}{w0 w w':World}{m:G6}{g:Gh}
def He.adopt(h:He P B w0 m w g)(hb:Below w.heap.size w w'){fr:Id}(hf:B1 m g fr){b:Nat}(a:w.heap.size<=b){cur:Array Value}{T:TypeId}(hh:w'.heap[b]?=some (.cells cur T (0,0))){ds:List D}
  (hc:∀(j:Nat) d,ds[j]?=some d->d.plain=true∧∃v,cur[j]?=some v∧v.oneCell'=true∧Rep w' (g.obj fr b) d v):
  He P B w0 (m.put fr 0 ds) w' (g.obj fr b)∧Ht w g w' (g.obj fr b):=by
 have x:Ht w g w' (g.obj fr b):=by
  refine⟨λp hp=>?_,λb=>Qz _,λi' b h=>?_,rfl,λi x h=>h⟩
  ·by_cases ea:p.block<w.heap.size
   ·exact hb.cell ea
   ·rw[h.gz _ O]at hp;omega
  ·simp only[Gh.obj];split
   ·rename_i e;subst e;rw[hf.2.1]at h;cases h
   ·exact h
 refine⟨?_,x⟩;have ne:∀i' b',g.dl i'=some b'->i'≠fr:=λi' b' hb e=>by subst e;rw[hf.2.1]at hb;cases hb
 have da:∀o d,m.put fr 0 ds fr o=some d->ds[o]?=some d:=by
  intro o d hm;by_cases ho:o<ds.length
  ·have z:m.put fr 0 ds fr (0+o)=ds[o]?:=aE ho;rw[Qv]at z;rw[←z];exact hm
  ·rw[aC O,hf.1 o]at hm;cases hm
 have ab:∀{o d},m.put fr 0 ds fr o=some d->d.plain=true:=λhm=>(hc _ _ (da _ _ hm)).1
 have u:∀{i o d},m.put fr 0 ds i o=some d->d.plain=false->i≠fr∧m i o=some d:=by
  grind [aA]
 refine⟨h.below.trans (hb.mono h.size),QP h.size hb.size,λb' va=>h.gz b' (QP hb.size va),h.old,λi' b' hi=>?_,λi1 i2 b' k f=>?_,λi' o d hm t=>?_,λi' e hi=>?_,λi1 i2 e e' b' y y' k f h3 h4=>?_,h.itr.to (λi' s p e=>(u e rfl).2) λi' b' s p _ _ _ e1 e2 e3=>?_⟩
 rotate_right
 ·have ea:b'<w.heap.size:=(QF.1 e1).1;refine⟨rfl,hb.block b' ea,e2,λi1 k=>?_⟩;simp only[Gh.obj]at k;split at k
  ·grind
  ·exact e3 i1 k
 ·simp only[Gh.obj]at hi;split at hi
  ·rename_i e;subst e;simp only[Qb]at hi;subst hi;refine⟨QP h.size a,h.gz _ a,cur,T,hh,λo d hm=>?_⟩;exact(hc o d (da o d hm)).2
  ·rename_i ga;obtain⟨p,q,bb,T',ma,r⟩:=h.obj i' b' hi;refine⟨p,q,bb,T',(hb.block b' (h.lt hi)).trans ma,λo d hm=>?_⟩;rw[aA ga]at hm;obtain⟨v,r1,r2,r3⟩:=r o d hm;exact⟨v,r1,r2,r3.ext x⟩
 ·simp only[Gh.obj]at k f;split at k<;>split at f
  ·simp_all
  ·simp only[Qb]at k;subst k;have:=h.lt f;omega
  ·simp only[Qb]at f;subst f;have:=h.lt k;omega
  ·exact h.inj _ _ _ k f
 ·simp only[Gh.obj]at t;split at t
  ·cases t
  ·rename_i ga;rw[aA ga]at hm;exact h.kind _ _ _ hm t
 ·obtain⟨ga,hi⟩:=u hi rfl;obtain⟨b1,n,c,sz,na,t1,t2,t3,t4,t5,t6,t7,t8,t9,xa⟩:=h.tok i' e hi;have ea:b1<w.heap.size:=(QF.1 t5).1;refine⟨b1,n,c,sz,na,t1,t2,t3,t4,(hb.block b1 ea).trans t5,t6,t7,t8,t9,λi1 k=>?_⟩;simp only[Gh.obj]at k;split at k
  ·grind
  ·exact xa i1 k
 ·exact h.tinj _ _ _ _ _ _ _ (u k rfl).2 (u f rfl).2 h3 h4
end
section
variable{P:Program}{S:GZ}{f:FuncId}{N:Nat}{dc:DC}{rs:List RV}
def aBc(hS:GZ.ok P S)(hf:Fn P f N dc rs){F:List D->Option (List D)}(hN:∀ds r,F ds=some r->ds.length<=N)
  (hF:∀ds xs,F ds=some xs->(∀x∈flat xs,x.plain=true)∧dc.wp S [] (Ee rs λd m'=>∃t e,d= .slice false t xs∧t≠[]∧m' t 0=some (.tok (e+1))) ⟨BL ds,λ_ _=>none,0⟩):(ID F).ok P f:=by
 obtain⟨fn,ba,q,y,h3,h4,h5,h6⟩:=hf.is;refine⟨⟨fn,q,Xw,h3⟩,λds m m' fr _=>rfl,?_⟩;intro B w0 w m g fr ds vs r u hi fa hl da z;simp only[ID]at z;split at z
 ·rename_i ia;rw[Qj]at z;obtain⟨xs,hr,z⟩:=z;simp only[Qr]at z;obtain⟨rfl,rfl⟩:=z;obtain⟨ab,za⟩:=hF _ _ hr;have ua:=Nz P w hi.gz;have ca:∀(j:Nat) d v,(ds.map D.un)[j]?=some d->vs[j]?=some v->Rep w (startG g.G) d v:=by
   intro j d v hd hv;have s:=Qs.1 ia d (Qp hd);rw[QL,Qj]at hd;obtain⟨d',na,rfl⟩:=hd;exact(da j d' v na hv).un.calm_to s (λ_ _=>rfl) (λ_=>Qz _)
  have oa:=Gy (B:=w.heap.size) (w0:=w) (w:=w) (g:=startG g.G) (ns:=[]) (m:=λ_ _=>none) (ds:=ds.map D.un) (vs:=vs) hS hf (hN _ _ hr) ua (λk i _=>⟨λ_=>rfl,rfl,rfl⟩) Xk ca za;refine oa.mono ?_;rintro e w' ⟨v,d,m',g',rfl,ka,la,_,ya,t,e',rfl,ht,l⟩;obtain⟨b,n,c,sz,cur,t1,t2,t3,t4,t5,t6,t7,t8,t9,xa⟩:=ka.tok t e' l;rcases ya.slice_inv with ⟨h,_⟩|⟨_,ad,n',c',pa,vv,rfl,q1,q2,q3,q4,q5,q6,q7,q8,q9⟩
  ·cases h
  ·obtain⟨p,o,a⟩:=q8 ht;rw[t1]at a;simp only[Qb,Qr]at a;obtain⟨hb,hn,s,ja⟩:=a;have vb:ad=⟨b,0,none⟩:=by
    cases ad;simp only at hb p o;subst hb p o;rfl
   subst vb;subst hn s ja;have wa:=Cr q3;obtain⟨i1,i2⟩:=hi.adopt ka.below (fa fr (Zq _)) t2 t5 (ds:=flat xs) (λj d hd=>by
    have hj:j<n*sz:=by rw[q1,←wa];exact(Qo.1 hd).1
    have hp:=ab d (Qp hd);have ha:=q4 j hj;rw[E8,Qv]at ha;refine⟨hp,vv j,?_,q5 j hj,(q6 j d hd).plain hp⟩;simpa[World.cell?,t5]using ha)
   refine⟨_,g.obj fr b,rfl,i1,i2,?_,λi hf ga=>ET hf ga _ _⟩;rw[←q1];exact .row fr n c b q2 (by simp[Gh.obj])
 ·cases z
def aRh(m:G6)(d r:D):Prop:=r=d.un∨(∃i xs sz,d= .row i xs.length∧r= .slice false [] xs∧(∀x∈xs,x.calm=true∧x.cells.length=sz)∧∀(j:Nat) x,(flat xs)[j]?=some x->m i j=some x)∨
 ∃i xs,d= .ptr i 0∧r= .eptr xs∧(∀x∈xs,x.calm=true)∧∀(j:Nat) x,xs[j]?=some x->m i j=some x
def yS(p:D->D->Prop):List D->List D->Prop
 |[],[]=>True
 |c::cs,x::xs=>p c x∧yS p cs xs
 |_,_=>False
def aRg(m:G6)(d r:D):Prop:=aRh m d r∨∃cs xs,d= .agg cs∧r= .agg xs∧yS (aRh m) cs xs
def aWO(m:G6)(d r:D):Prop:=(r.calm=true∧aRg m d r)∨∃cs xs,d= .tup cs∧r= .tup xs∧yS (aRg m) cs xs
def yS.get{p:D->D->Prop}:∀{cs xs:List D},yS p cs xs->cs.length=xs.length∧∀(j:Nat) c x,cs[j]?=some c->xs[j]?=some x->p c x
 |[],[],_=>⟨rfl,U⟩
 |c::cs,x::xs,h=>by
  obtain⟨u,f⟩:=h;obtain⟨a,b⟩:=yS.get f;refine⟨by simp[a],λj c' z w q=>?_⟩;cases j with
  |zero=>simp only[Qx,Qb]at w q;subst w q;exact u
  |succ j=>simp only[Qd]at w q;exact b j c' z w q
 |[],_::_,h=>h.elim
 |_::_,[],h=>h.elim
def qC(hS:GZ.ok P S)(hf:Fn P f N dc rs){F:List D->Option D}(hN:∀ds r,F ds=some r->ds.length<=N)
  (hF:∀ds r,F ds=some r->r.calmR=true∧dc.wp S [] (Ee rs λd m'=>aWO m' d r) ⟨BL ds,λ_ _=>none,0⟩):(Ac F).ok P f:=by
 obtain⟨fn,o,q,h2,h3,h4,h5,h6⟩:=hf.is;refine⟨⟨fn,q,by rw[h2];rfl,h3⟩,λds m m' fr _=>rfl,?_⟩;intro B w0 w m g fr ds vs r u hi fa hl da z;simp only[Ac]at z;split at z
 ·rename_i ia;rw[Qj]at z;obtain⟨r',hr,z⟩:=z;simp only[Qr]at z;obtain⟨rfl,rfl⟩:=z;obtain⟨ga,za⟩:=hF _ _ hr;have ua:=Nz P w hi.gz;have ca:∀(j:Nat) d v,(ds.map D.un)[j]?=some d->vs[j]?=some v->Rep w (startG g.G) d v:=by
   intro j d v t hv;have s:=Qs.1 ia d (Qp t);rw[QL,Qj]at t;obtain⟨d',na,rfl⟩:=t;exact(da j d' v na hv).un.calm_to s (λ_ _=>rfl) (λ_=>Qz _)
  have oa:=Gy (B:=w.heap.size) (w0:=w) (w:=w) (g:=startG g.G) (ns:=[]) (m:=λ_ _=>none) (ds:=ds.map D.un) (vs:=vs) hS hf (hN _ _ hr) ua (λk i _=>⟨λ_=>rfl,rfl,rfl⟩) Xk ca za;refine oa.mono ?_;rintro e w' ⟨v,d,m',g',rfl,ka,la,_,ya,p⟩
  let G':Nat->Nat:=λb=>max (g'.G b) (match w'.heap[b]? with|some (.cells c _ _)=>c.size|_=>0)
  have y:∀b,g'.G b<=(g.glue w G').G b:=by
   intro b;simp only[Gh.glue];split
   ·rename_i ea;rw[ka.old b ea,la.G0];exact Qz _
   ·exact Nat.le_max_left ..
  have l:∀b,w'.heap.size<=b->G' b=0:=by
   intro b hb;simp only[G'];rw[Array.getElem?_eq_none hb,ka.gz b hb];rfl
  have hC:∀{d r:D} {v:Value},Rep w' g' d v->aRh m' d r->r.calm=true->Rep w' (g.glue w G') r v:=by
   intro d r v h hs s;rcases hs with rfl|⟨i,xs,sz,rfl,rfl,n,hm⟩|⟨i,xs,rfl,rfl,n,hm⟩
   ·exact h.un.calm_to s (λ_ _=>rfl) y
   ·obtain⟨b,cap,rfl,ma,hb⟩:=h.row_inv;obtain⟨kb,mb,cur,T,a,ta⟩:=ka.obj i b hb;have wa:=Cr λx h=>(n x h).2
    have ab:∀(j:Nat),j<(flat xs).length->∃v,cur[j]?=some v∧v.oneCell'=true∧∃x,(flat xs)[j]?=some x∧Rep w' g' x v:=by
     grind
    have ja:(flat xs).length<=cur.size:=by
     grind
    have ia:∀x∈xs,x.calm=true:=λx h=>(n x h).1
    refine aG (sz:=sz) (cur:=cur) (vs:=cur.toList.take (flat xs).length) a rfl ma (λx h=>(n x h).2) ⟨Xb,λv hv=>?_,λj x v pa hv=>?_⟩ (λj v hv=>?_) ?_ (λh=>absurd rfl h) ia
    ·obtain⟨j,hj,rfl⟩:=QW hv;have sa:j<(flat xs).length:=Zj hj (Zh _ _);obtain⟨v',r1,r2,_⟩:=ab j sa;have:(cur.toList.take (flat xs).length)[j]?=some v':=by rw[QJ sa];simpa using r1
     rw[Qc hj]at this;rw[QE this];exact r2
    ·have sa:j<(flat xs).length:=(Qo.1 pa).1;obtain⟨v',r1,r2,x',qa,r3⟩:=ab j sa;rw[pa]at qa;obtain rfl:=QE qa;have:(cur.toList.take (flat xs).length)[j]?=some v':=by rw[QJ sa];simpa using r1
     rw[hv]at this;obtain rfl:=QE this;exact r3.calm_to (N1 ia x (Qp pa)) (λ_ _=>rfl) y
    ·grind
    ·rw[←wa];simp only[Gh.glue,G'];rw[if_neg O,a];exact QP ja (Zz ..)
   ·obtain⟨b,rfl,hb⟩:=h.ptr_inv;obtain⟨kb,mb,cur,T,a,ta⟩:=ka.obj i b hb;have ab:∀(j:Nat)(hj:j<xs.length),∃v,cur[j]?=some v∧v.oneCell'=true∧Rep w' g' xs[j] v:=λj hj=>ta j _ (hm j _ (Qc hj))
    have ja:xs.length<=cur.size:=by
     rcases Zu xs.length with h0|h0
     ·omega
     ·obtain⟨v,r1,_⟩:=ab (xs.length-1) O;have:=(QF.1 r1).1;omega
    refine .eptr xs ⟨b,0,none⟩ (λj=>cur.getD j undef) (λj hj=>?_) (λj hj=>?_) (λj d t=>?_) (λ_=>?_) n
    ·rw[E8,Qv];simp[World.cell?,a,Array.getD,show j<cur.size by omega]
    ·obtain⟨v,r1,r2,_⟩:=ab j hj;have:cur.getD j undef=v:=by simp[Zi,r1]
     rw[this];exact r2
    ·have hj:=(Qo.1 t).1;obtain⟨v,r1,_,r3⟩:=ab j hj;have q:cur.getD j undef=v:=by simp[Zi,r1]
     have h2:xs[j]=d:=(Qo.1 t).2;rw[h2]at r3;rw[q];exact r3.calm_to (n d (Qp t)) (λ_ _=>rfl) y
    ·simp only[Gh.glue,G'];rw[if_neg O,a];exact QP (by simpa using ja) (Zz ..)
  have hD:∀{d r:D} {v:Value},Rep w' g' d v->aRg m' d r->r.calm=true->Rep w' (g.glue w G') r v:=by
   intro d r v h hs s;rcases hs with hs|⟨cs,xs,rfl,rfl,hL⟩
   ·exact hC h hs s
   ·obtain⟨us,rfl,k1,k2,k3⟩:=aI h;obtain⟨l1,l2⟩:=hL.get;refine .agg _ us (by rw[k1,l1]) k2 (λj x v n hv=>?_);have hj:j<cs.length:=by rw[l1];exact(Qo.1 n).1
    exact hC (k3 j _ v (Qc hj) hv) (l2 j _ x (Qc hj) n) (fM s x (Qp n))
  refine⟨v,g.glue w G',rfl,hi.glue ka.below l,Ht.glue hi.gz ka.below,?_,λi hf _=>hf⟩;rcases p with ⟨s,hs⟩|⟨cs,xs,rfl,rfl,hL⟩
  ·exact hD ya hs s
  ·obtain⟨us,rfl,k1,k2⟩:=ya.tup_inv;obtain⟨l1,l2⟩:=hL.get;refine .tup _ us (by rw[k1,l1]) (λj x v n hv=>?_);have hj:j<cs.length:=by rw[l1];exact(Qo.1 n).1
   simp only[D.calmR,Qs]at ga;exact hD (k2 j _ v (Qc hj) hv) (l2 j _ x (Qc hj) n) (ga x (Qp n))
 ·cases z
end
def aH7:D->Bool
 | .slice _ _ _=>true
 |_=>false
def Fc:List D->Nat
 |[]=>0
 | .slice _ _ xs::r=>xs.length+Fc r
 |_::r=>Fc r
def fK:∀{L ys:List D},Fh L=some ys->ys.length=Fc L∧L.all aH7=true
 |[],ys,h=>by simp only[Fh,Qb]at h;subst h;exact⟨rfl,rfl⟩
 |x::r,ys,h=>by
  unfold Fh at h;split at h
  ·rename_i e;cases e
  ·rename_i nl t xs q e;cases e;rw[Qj]at h;obtain⟨zs,o,rfl⟩:=h;obtain⟨u,f⟩:=fK o;exact⟨by simp[Fc,u],by simp[aH7,f]⟩
  ·cases h
def iH(sz:Nat)(d:D):Bool:=d.cells.length==sz
def lD{sz:Nat}{ys:List D}(h:ys.all (iH sz)=true):aD ys sz=sz:=by
 cases ys with
 |nil=>rfl
 |cons y r=>
  have:=Qs.1 h y (Q5 ..);simpa[aD,iH]using this
def aYE{n bytes:Nat}(x:bytes<=1000000)(g:n<=100000):n*(bytes+1)<=140737488355328:=QP (Nat.mul_le_mul g (Nat.succ_le_succ x)) O
def aCx{m:G6}{e:Nat}{fr t:Id}{nl:Bool}{xs:List D}:Ha.app m (Be e fr (.slice nl t xs)) fr 0=some (.tok (e+1)):=by
 cases nl<;>simp[Be,Ha.app,BC]
def L7(pt:Nat):DC:=(.seq (.row [⟨some 12,.bin .lss (.t 11) (.t 10),[],none⟩]) (.seq (.cond (.t 12) .skip (.exit 0)) (.seq (.block 1 (.seq (.row [⟨some 13,.iaddr 1 (.t 9) (.t 11),[],none⟩,⟨some 14,.load none (.t 13),[],none⟩,⟨some 5,.mv (.t 14),[],none⟩]) (.seq (.row [⟨some 15,.mv (.t 3),[],none⟩,⟨some 16,.mv (.t 5),[],none⟩,⟨some 17,.len false (.t 16),[],none⟩,⟨some 18,.bin .add (.t 15) (.t 17),[],none⟩,⟨some 3,.mv (.t 18),[],none⟩]) (.seq (.row [⟨some 19,.mv (.t 3),[],none⟩,⟨some 20,.bin .lss (.t 19) (.c (.int .i64 0)),[],none⟩]) (.cond (.t 20) (.row [⟨some 21,.mkif pt (.c (.str [108,101,110,32,111,117,116,32,111,102,32,114,97,110,103,101])),[],none⟩,⟨none,.stop,[],none⟩]) .skip))))) (.row [⟨some 22,.bin .add (.t 11) (.c (.int .i64 1)),[],none⟩,⟨some 11,.mv (.t 22),[],none⟩]))))
def L6(e sz bytes:Nat):DC:=(.seq (.row [⟨some 28,.bin .lss (.t 27) (.t 26),[],none⟩]) (.seq (.cond (.t 28) .skip (.exit 2)) (.seq (.block 3 (.seq (.row [⟨some 29,.iaddr 1 (.t 25) (.t 27),[],none⟩,⟨some 30,.load none (.t 29),[],none⟩,⟨some 8,.mv (.t 30),[],none⟩]) (.row [⟨some 31,.mv (.t 6),[],none⟩,⟨some 32,.mv (.t 8),[],none⟩,⟨some 33,.app e sz bytes (.t 31) (.t 32),[],none⟩,⟨some 6,.mv (.t 33),[],none⟩]))) (.row [⟨some 34,.bin .add (.t 27) (.c (.int .i64 1)),[],none⟩,⟨some 27,.mv (.t 34),[],none⟩]))))
def Gu(pt e sz bytes gf:Nat):DC:=(.seq (.row [⟨some 2,.mv (.c (.slice true [] [])),[],none⟩]) (.seq (.row [⟨some 3,.mv (.c (.int .i64 0)),[],none⟩]) (.seq (.seq (.row [⟨some 9,.mv (.t 0),[],none⟩,⟨some 10,.len false (.t 9),[],none⟩,⟨some 11,.mv (.c (.int .i64 0)),[],none⟩]) (.block 0 (.loop (L7 pt)))) (.seq (.row [⟨some 23,.mv (.t 3),[],none⟩,⟨some 24,.call (.c (.fn gf [])) [(.c (.slice true [] [])),(.t 23)],[],none⟩,⟨some 6,.mv (.t 24),[],none⟩]) (.seq (.seq (.row [⟨some 25,.mv (.t 0),[],none⟩,⟨some 26,.len false (.t 25),[],none⟩,⟨some 27,.mv (.c (.int .i64 0)),[],none⟩]) (.block 2 (.loop (L6 e sz bytes)))) (.seq (.row [⟨some 35,.mv (.t 6),[],none⟩,⟨some 2,.mv (.t 35),[],none⟩]) .ret))))))
def aBK{pt:Nat}{S:GZ}{ns:Id}{L:List D}{nl:Bool}{t:Id}{Q:Ex->St->Prop}(m:L.length<=1000)(ia:L.all aH7=true)
  (o:∀(y:St),y.s 0= .slice nl t L->y.s 3= .int .i64 (Fc L:Nat)->Q (.exit 0) y):
  ∀(R:List D)(k a:Nat) y g,L.drop k=R->k<=L.length->a+Fc R=Fc L->Fc L<=1000000->y.s 0= .slice nl t L->y.s 9= .slice nl t L->y.s 10= .int .i64 (L.length:Nat)->y.s 11= .int .i64 (k:Nat)->y.s 3= .int .i64 (a:Nat)->
   Ba S ns (L7 pt) Q y g:=by
 intro R;induction R with
 |nil=>
  intro k a y g z n p j w v f ma i;refine Af (L7.eq_1 pt) ?_;have r:L.length<=k:=by simpa using z
  have:¬((k:Int)<L.length):=O
  simp only[↓C2,G8,Hj,reduceIte,Qf,f,ma,this];refine o _ ?_ ?_
  ·simp only[↓C2,reduceIte,Qe,w]
  ·simp only[↓C2,reduceIte,Qe,i];simp only[Fc]at p;rw[←p];rfl
 |cons x R ih=>
  intro k a y g z n p j w v f ma i;refine Af (L7.eq_1 pt) ?_;have na:k<L.length:=by
   grind
  have e:L[k]?=some x:=by
   have:=congrArg (·[0]?) z;simpa using this
  have q:aH7 x=true:=Qs.1 ia x (Qp e);have sa:L.drop (k+1)=R:=by
   rw[←ZE,z];rfl
  match x,q with
  | .slice nl' t' xs,_=>
   have u:((k:Int)<L.length):=O
   have d:(0:Int)<=(k:Int):=O
   have c:L[(k:Int).toNat]?=some (.slice nl' t' xs):=by simpa using e
   simp only[Fc]at p;have w1:IntKind.i64.wrap ((a:Int)+(xs.length:Int))=((a+xs.length:Nat):Int):=Yp
   have w2:IntKind.i64.wrap ((k:Int)+1)=((k+1:Nat):Int):=Yp
   have b:¬(((a+xs.length:Nat):Int)<0):=O
   simp only[↓C2,G_,reduceIte,Qe,Qf,v,f,ma,i,u,d,c,w1,w2,b];exact ih (k+1) (a+xs.length) _ _ sa O O j w v f rfl rfl
def aBJ{e sz bytes:Nat}(ja:bytes<=1000000){S:GZ}{ns:Id}{L:List D}{nl0:Bool}{t0:Id}{Q:Ex->St->Prop}(hb:L.length<=1000)
  (q:∀(y:St)(nl:Bool)(t:Id)(ys:List D),Fh L=some ys->y.s 6= .slice nl t ys->(nl=true->ys=[])->I6 y.m e (.slice nl t ys)->Q (.exit 2) y):
  ∀(R:List D)(k:Nat)(j zs:List D)(nl:Bool)(t:Id) y g,L.drop k=R->k<=L.length->Fh R=some zs->Fh L=some (j++zs)->(j++zs).all (iH sz)=true->(j++zs).length<=100000->
   (nl=true->j=[])->I6 y.m e (.slice nl t j)->
   y.s 6= .slice nl t j->y.s 25= .slice nl0 t0 L->y.s 26= .int .i64 (L.length:Nat)->y.s 27= .int .i64 (k:Nat)->
   Ba S ns (L6 e sz bytes) Q y g:=by
 intro R;induction R with
 |nil=>
  intro k j zs nl t y g hd n f hL a o i z h6 ia b p;refine Af (L6.eq_1 e sz bytes) ?_;have r:L.length<=k:=by simpa using hd
  have:¬((k:Int)<L.length):=O
  simp only[Fh,Qb]at f;subst f;simp only[↓C2,G8,Hj,reduceIte,Qf,b,p,this];refine q _ nl t j (by simpa using hL) ?_ i z;simp only[↓C2,reduceIte,Qe,h6]
 |cons x R ih=>
  intro k j zs nl t y g hd n f hL a o i z h6 ia b p;refine Af (L6.eq_1 e sz bytes) ?_;have na:k<L.length:=by
   grind
  have ra:L[k]?=some x:=by
   have:=congrArg (·[0]?) hd;simpa using this
  have sa:L.drop (k+1)=R:=by
   rw[←ZE,hd];rfl
  unfold Fh at f;split at f
  ·rename_i ka;cases ka
  ·rename_i nl' t' xs R' ka;cases ka;rw[Qj]at f;obtain⟨d,ta,rfl⟩:=f;have u:((k:Int)<L.length):=by omega
   have qa:(0:Int)<=(k:Int):=O
   have c:L[(k:Int).toNat]?=some (.slice nl' t' xs):=by simpa using ra
   have w2:IntKind.i64.wrap ((k:Int)+1)=((k+1:Nat):Int):=Yp
   simp only[↓C2,G_,reduceIte,Qe,Qf,h6,ia,b,p,u,qa,c];have v:(if nl=true then xs else j++xs)=j++xs:=B0 i;refine aF (λw=>?_) (λw=>?_)
   ·obtain⟨rfl,rfl⟩:=w;obtain rfl:=i rfl;simp only[↓C2,G8,H_,reduceIte,Qe,Qf,p,w2];exact ih (k+1) [] d true [] _ _ sa O ta (by simpa using hL) Xz XX (λ_=>rfl) (.inl rfl) rfl ia b rfl
   ·have eb:xs.all (iH sz)=true:=by
     rw[Zs,Zs]at a;simp only[Q3]at a;exact a.2.1
    refine As.intro ⟨aYE ja (by simp only[Q6]at o;omega),lD eb,z⟩ ?_;rw[v];simp only[↓C2,G8,H_,reduceIte,Qe,Qf,p,w2];refine ih (k+1) (j++xs) d false _ _ _ sa O ta (by simpa using hL) Xz XX (λh=>Xc) (.inr ⟨aCx,U⟩) rfl ia b rfl
  ·cases f
def Uo(sz:Nat):List D->Option (List D)
 |[.slice _ _ L]=>match Fh L with
  |some ys=>if L.length<=1000∧0<ys.length∧ys.length<=100000∧ys.all (iH sz)=true then some ys else none
  |none=>none
 |_=>none
def RQ{P:Program}{f gf pt e sz bytes:Nat}(j:bytes<=1000000){S:GZ}(s:S gf=some (DS e)){L ys:List D}{nl:Bool}{t:Id}(k:Fh L=some ys)(c1:L.length<=1000)(p:0<ys.length)(c3:ys.length<=100000)(v:ys.all (iH sz)=true)
  {R:D->G6->Prop} (u:∀t m,I6 m e (.slice false t ys)->R (.slice false t ys) m):(Gu pt e sz bytes gf).wp S [] (Ee [.t 2] R) ⟨BL [.slice nl t L],λ_ _=>none,0⟩:=by
 obtain⟨hl,ia⟩:=fK k;unfold Gu;simp only[↓C2,G8,reduceIte,Qe,Qf];refine aBK c1 ia (λy w i=>?_) L 0 0 _ _ rfl O U O rfl rfl rfl rfl rfl;simp only[↓C2,G8,Hj,reduceIte,Qf,i];rw[AG s];have a:(DS e).ex ([D.slice true [] [],D.int IntKind.i64 (Fc L:Nat)]++[]) y.m [y.c+1]=some (.slice false [0,y.c+1] [],[([0,y.c+1],0,[.tok (e+1)])]):=by
  grind [DS]
 refine aH a ?_;simp only[↓C2,G8,reduceIte,Qe,Qf,w];refine aBJ j c1 (λx nl' n zs o r g z=>?_) L 0 [] ys false _ _ _ rfl O k XY XT (by simpa using c3) (λh=>Xc) (.inr ⟨?_,U⟩) rfl w rfl rfl
 ·rw[k]at o;simp only[Qb]at o;subst o;have d:nl'=false:=by
   grind
  subst d;simp only[↓C2,G8,reduceIte,Qe,Qf,r];exact u _ _ z
 ·simp[BC]
section
variable{P:Program}{f gf pt e sz bytes:Nat}
def So{ds ys:List D}(h:Uo sz ds=some ys):∃nl t L,ds=[.slice nl t L]∧Fh L=some ys∧L.length<=1000∧0<ys.length∧ys.length<=100000∧ys.all (iH sz)=true:=by
 unfold Uo at h;split at h
 ·grind
 ·cases h
def gS(gf e:Nat):GZ:=λf=>if f=gf then some (DS e)else none
def aLG(a:(DS e).ok P gf):GZ.ok P (gS gf e):=by
 intro f q h;unfold gS at h;split at h
 ·simp_all
 ·cases h
def aIB(d:Fn P f 36 (Gu pt e sz bytes gf) [.t 2])(j:bytes<=1000000)(a:(DS e).ok P gf):(ID λds=>(Uo sz ds).bind λys=>if(flat ys).all D.plain=true then some ys else none).ok P f:=by
 refine aBc (aLG a) d (λds r h=>?_) (λds r h=>?_)
 ·rw[QB]at h;obtain⟨ys,h,_⟩:=h;obtain⟨nl,t,L,rfl,_⟩:=So h;simp
 ·rw[QB]at h;obtain⟨ys,h,y⟩:=h;split at y
  ·rename_i c;simp only[Qb]at y;subst y;obtain⟨nl,t,L,rfl,b,c1,p,o,i⟩:=So h;refine⟨λx q=>Qs.1 c x q,RQ (P:=P) (f:=f) j (by simp[gS]) b c1 p o i λt m z=>?_⟩;rcases z with h|⟨u,y⟩
   ·cases h
   ·exact⟨t,e,rfl,y,u⟩
  ·cases y
def rE(d:Fn P f 36 (Gu pt e sz bytes gf) [.t 2])(x:bytes<=1000000)(a:(DS e).ok P gf){F:List D->Option D}
  (j:∀ds r,F ds=some r->∃nl t L ys,ds=[.slice nl t L]∧Fh L=some ys∧L.length<=1000∧0<ys.length∧ys.length<=100000∧ys.all (iH sz)=true∧r= .slice false [] ys):(Ac F).ok P f:=by
 refine AM (aLG a) d (λds r h=>?_) (λds r h=>?_)
 ·grind
 ·obtain⟨nl,t,L,ys,rfl,b,c1,p,y,i,rfl⟩:=j ds r h;exact RQ (P:=P) (f:=f) x (by simp[gS]) b c1 p y i λt m z=>⟨rfl,rfl⟩
end
def Ep(n:Nat):UInt8:=if n<10 then UInt8.ofNat (48+n)else UInt8.ofNat (87+n)
def Cl(s:List UInt8):List UInt8:=s.flatMap λb=>[Ep (b.toNat / 16),Ep (b.toNat % 16)]
theorem Er:∀s:List UInt8,(Cl s).length=2*s.length
 |[]=>rfl
 |b::r=>by
  have:=Er r;simp only[Cl,List.flatMap_cons,Q6,Qm,Qq]at this ⊢;omega
def Ed(a b:List UInt8):Az (a++b)=Az a++Az b:=by simp[Az]
def B_(a:List UInt8):(Az a).length=a.length:=by simp[Az]
def Cz:∀a:List UInt8,BI (Az a)=some a
 |[]=>rfl
 |c::r=>by
  have h:=c.toNat_lt;show(BI (Az r)).map _=_;rw[Cz r];simp
def Ru:∀n,n<16->([48,49,50,51,52,53,54,55,56,57,97,98,99,100,101,102]:List UInt8)[n]?=some (Ep n):=Xi
def aWK:∀n:Nat,n<256->bits .and .u8 (n:Int) 15=((n % 16:Nat):Int):=Xi
def aXJ:∀n:Nat,n<256->(n:Int).fdiv (2 ^ min (4:Int).toNat IntKind.u8.bits)=((n / 16:Nat):Int):=Xi
def vP(s:List UInt8)(c:UInt8):Cl (s++[c])=Cl s++[Ep (c.toNat / 16),Ep (c.toNat % 16)]:=by simp[Cl]
def CN:List (List UInt8)->Nat
 |[]=>0
 |w::r=>w.length+CN r
def Ss(m:G6)(i:Id):Nat->Nat->Option (List (List UInt8))
 |0,_=>some []
 |f+1,j=>match m i j,Ss m i f (j+1)with
  |some (.str p),some l=>some (p::l)
  |_,_=>none
def S1{m:G6}{i:Id}:∀{f j:Nat} {xs:List (List UInt8)},Ss m i f j=some xs->xs.length=f∧∀k x,xs[k]?=some x->m i (j+k)=some (.str x)
 |0,j,xs,h=>by
  simp only[Ss,Qb]at h;subst h;exact⟨rfl,U⟩
 |f+1,j,xs,h=>by
  unfold Ss at h;split at h
  ·rename_i p l n v;simp only[Qb]at h;subst h;obtain⟨t,r⟩:=S1 v;refine⟨by simp[t],λk x q=>?_⟩;cases k with
   |zero=>simp only[Qx,Qb]at q;subst q;exact n
   |succ k=>
    have:=r k x Xu;rw[show j+1+k=j+(k+1)by omega]at this;exact this
  ·cases h
def WQ{m m':G6}{i:Id}:∀{f j n:Nat},j+f<=n->(∀o,o<n->m i o=m' i o)->Ss m i f j=Ss m' i f j
 |0,j,n,_,_=>rfl
 |f+1,j,n,hn,h=>by
  unfold Ss;rw[h j O,WQ (f:=f) (j:=j+1) O h]
def oD{m:G6}{i:Id}:∀{xs:List (List UInt8)} {j:Nat},(∀k x,xs[k]?=some x->m i (j+k)=some (.str x))->Ss m i xs.length j=some xs
 |[],j,_=>rfl
 |x::r,j,h=>by
  have z:=h 0 x rfl;have hr:=oD (xs:=r) (j:=j+1) (λk y a=>by have:=h (k+1) y Xz;rw[show j+1+k=j+(k+1)by omega];exact this);simp only[Qm,Ss,Q8]at z ⊢;rw[z,hr]
def BA:List (List UInt8)->List UInt8
 |[]=>[]
 |[w]=>w
 |w::v::r=>w++44::BA (v::r)
def Gl:∀l:List (List UInt8),(BA l).length<=CN l+l.length
 |[]=>by simp[BA]
 |[w]=>by simp[BA,CN]
 |w::v::r=>by
  have:=Gl (v::r);simp only[BA,Q6,Qm,CN]at this ⊢;omega
def Rr:∀l:List (List UInt8),Lib.join l [44]=BA l
 |[]=>rfl
 |[w]=>Lib.join_one w [44]
 |w::v::r=>by
  have ih:=Rr (v::r);rw[Lib.join_cons]at ih;rw[Lib.join_cons,BA,←ih];simp[Lib.joinTail]
def TH:HF where
 rd:=λds _=>match ds with
  |[.row i n,_]=>(List.range n).map λo=>(i,o)
  |_=>[]
 ex:=λds m _=>match ds with
  |[.row i n,.str [44]]=>(Ss m i n 0).bind λl=>if l.length<=1000∧CN l<=1000000 then some (.str (BA l),[])else none
  |_=>none
def aCg {P:Program} {ρ:Go.Shelf.Ren} (L:Go.Proofs.Lays.n156 P ρ) (X:Go.Proofs.Builder.Extra P ρ) (ua:∃fn,P.funcs[ρ.f 156]?=some fn∧fn.body.isSome=true∧(fn.name== "runtime.NumGoroutine")=false):TH.ok P (ρ.f 156):=by
 refine⟨ua,λds m m' fr h=>?_,?_⟩
 ·simp only[TH]at h ⊢;split
  ·rename_i i n;simp only at h;rw[WQ (m:=m) (m':=m') (n:=n) O λo ho=>h (i,o) (Q_.2 ⟨o,by simpa using ho,rfl⟩)]
  ·rfl
 intro B w0 w m g fr ds vs r u hi fa hl da y;simp only[TH]at y;split at y
 ·rename_i i n;rw[QB]at y;obtain⟨l,k,y⟩:=y;split at y
  ·rename_i s;obtain⟨c1,c2⟩:=s;simp only[Qb,Qr]at y;obtain⟨rfl,rfl⟩:=y
   match vs,hl with
   |[v,v1],_=>
    have h0:=da 0 _ v rfl rfl;have q:=da 1 _ v1 rfl rfl;rw[q.str_inv];obtain⟨b,c,rfl,za,t⟩:=h0.row_inv;obtain⟨ia,pa⟩:=S1 k;obtain⟨kb,mb,cur,T,a,ta⟩:=hi.obj i b t;have p:∀(j:Nat) z,l[j]?=some z->w.cell? ⟨b,0+j,none⟩=some (.string ⟨z.toArray⟩):=by
     intro j z hz;have hm:=pa j z hz;rw[Qv]at hm;obtain⟨v',r1,r2,r3⟩:=ta j _ hm;rw[r3.str_inv]at r1;simp[World.cell?,a,r1]
    have ka:(l.map λx=>(⟨x.toArray⟩:ByteArray)).map (·.data.toList)=l:=Yz
    have e:(⟨#[44]⟩:ByteArray).data.toList=[44]:=rfl;have ra:=Gl l;have:=Go.Proofs.Any.strings_Join L X b 0 c (l.map λx=>(⟨x.toArray⟩:ByteArray)) ⟨#[44]⟩ w (λj x d=>by
     rw[QL,Qj]at d;obtain⟨z,hz,rfl⟩:=d;exact p j z hz) (hi.lt t) Xb Xb (by rw[ka,e,Rr];omega)
    rw[ka,e,Rr,Qw,ia]at this;refine this.mono ?_;rintro ev w' ⟨rfl,t⟩;exact⟨_,g.over w w',rfl,hi.over t,Ht.over hi.gz t,.str _,λi hf _=>hf⟩
  ·cases y
 ·cases y
section
variable{P:Program}{B:Nat}{w0:World}{N:Nat}{ns:Id}{S:GZ}{t:Nat}
end
section
variable{P:Program}{S:GZ}{f:FuncId}{N:Nat}{dc a b:DC}{rs:List RV}{code:Code}
end
section
variable{P:Program}{B:Nat}{w0 w:World}{m:G6}{g g0:Gh}{N:Nat}
end
section
variable{P:Program}{B:Nat}{w0:World}{N:Nat}{S:GZ}
end
def BY(m:G6)(e:Nat)(nl:Bool)(t:Id)(emp:Bool):Bool:=
 if nl=true then emp else match m t 0 with
  |some (.tok k)=>k==e+1&&!t.isEmpty
  |_=>false
def RA{m:G6}{e:Nat}{nl:Bool}{t:Id}{emp:Bool}{xs:List D}(h:BY m e nl t emp=true):I6 m e (.slice nl t xs):=by
 unfold BY at h;split at h
 ·rename_i z;exact .inl z
 ·split at h
  ·rename_i k j;simp only[Q3,beq_iff_eq]at h;rw[h.1]at j;exact .inr ⟨j,by intro e;rw[e]at h;simp at h⟩
  ·cases h
theorem Es{m m':G6}{e:Nat}{nl:Bool}{t:Id}{emp:Bool}(h:m t 0=m' t 0):BY m e nl t emp=BY m' e nl t emp:=by
 unfold BY;rw[h]
def eC{m m':G6}{e:Nat}{nl:Bool}{t:Id}{emp:Bool}{xs:List D}(h:BY m e nl t emp=true)(j:nl=false->m t 0=some (.tok (e+1))->m' t 0=m t 0):I6 m' e (.slice nl t xs):=by
 rcases RA (xs:=xs) h with h0|⟨u,f⟩
 ·exact .inl h0
 ·cases nl with
  |true=>exact .inl rfl
  |false=>exact .inr ⟨by rw[j rfl u];exact u,f⟩
def EY{m:G6}{e:Nat}{nl:Bool}{t:Id}{emp:Bool}(h:BY m e nl t emp=true):nl=false->m t 0=some (.tok (e+1)):=by
 rintro rfl;rcases RA (xs:=[]) h with h0|⟨u,f⟩
 ·cases h0
 ·exact u
theorem Dm{m:G6}{e:Nat}{f t i:Id}{nl:Bool}{xs:List D}{o:Nat}:Ha.app m (Be e f (.slice nl t xs)) i o=if i=f∧o=0 then some (.tok (e+1))else if nl=false∧i=t∧o=0 then some (.tok 0)else m i o:=by
 cases nl<;>simp[Be,Ha.app,BC]
def Iv{n:Nat}(h:n<256):(UInt8.ofNat n).toNat=n:=by simp[UInt8.toNat_ofNat'];omega
def Uw(n:Int):IntKind.u8.wrap n=(((n % 256).toNat:Nat):Int):=by
 have u:IntKind.u8.wrap n=n % 256:=YA
 rw[u];omega
structure Gd (e:Nat) (fr:Id) (m0:G6) (nl0:Bool) (t0:Id) (m:G6) (c:Nat) (t:Id):Prop where
 name:∃l j,t=l++j::fr∧j<c
 tok:m t 0=some (.tok (e+1))
 out:∀i o,¬fr<:+i->m i o=(if nl0=true then m0 else m0.put t0 0 [.tok 0]) i o
def Gs(e:Nat)(fr:Id)(m0:G6)(nl0:Bool)(t0:Id)(m:G6)(c:Nat)(nl:Bool)(t:Id):Prop:=
 (nl=nl0∧t=t0∧∀i o,¬fr<:+i->m i o=m0 i o)∨(nl=false∧Gd e fr m0 nl0 t0 m c t)
def iX(l:List Nat)(j:Nat)(fr:Id):fr<:+l++j::fr:=⟨l++[j],U⟩
theorem aUL{l t:List Nat}{j k:Nat}{fr:Id}(h:j≠k):l++j::fr≠t++k::fr:=by
 intro e;have n:=congrArg List.reverse e;simp only[List.reverse_append,List.reverse_cons,Zc,List.append_cancel_left_eq]at n;simp only[Ze,QU,Qk]at n;exact h n.1
section
variable{e:Nat}{fr:Id}{m0 m:G6}{nl0 nl:Bool}{t0 t:Id}{c c' k o:Nat}{l:List Nat}{xs ds:List D}{emp:Bool}
def Gs.start:Gs e fr m0 nl0 t0 m0 c nl0 t0:= .inl ⟨rfl,rfl,λ_ _ _=>rfl⟩
def Gd.gs(h:Gd e fr m0 nl0 t0 m c t):Gs e fr m0 nl0 t0 m c false t:= .inr ⟨rfl,h⟩
def Gd.more(h:Gd e fr m0 nl0 t0 m c t)(w:c<=c'):Gd e fr m0 nl0 t0 m c' t:=⟨by obtain⟨l,j,b,p⟩:=h.name;exact⟨l,j,b,O⟩,h.tok,h.out⟩
def Gs.more(h:Gs e fr m0 nl0 t0 m c nl t)(w:c<=c'):Gs e fr m0 nl0 t0 m c' nl t:=h.imp id (λ⟨a,b⟩=>⟨a,b.more w⟩)
def pE(v:∀i o,fr<:+i->m0 i o=none)(h:m0 t0 0=some (.tok (e+1))):¬fr<:+t0:=λj=>by rw[v _ _ j]at h;cases h
def U_(i:Id)(o':Nat)(hi:¬fr<:+i):m.put (l++k::fr) o ds i o'=m i o':=aA (λe=>hi (e▸iX l k fr))
def Gd.put(h:Gd e fr m0 nl0 t0 m c t)(n:c<=k:=by omega):Gd e fr m0 nl0 t0 (m.put (l++k::fr) o ds) c t:=by
 refine⟨h.name,?_,λi o' hi=>(U_ i o' hi).trans (h.out i o' hi)⟩;obtain⟨s,j,b,p⟩:=h.name;rw[aA]
 ·exact h.tok
 ·grind [aUL]
def Gs.put(h:Gs e fr m0 nl0 t0 m c nl t)(n:c<=k:=by omega):Gs e fr m0 nl0 t0 (m.put (l++k::fr) o ds) c nl t:=by
 rcases h with ⟨a,b,d⟩|⟨a,h⟩
 ·exact .inl ⟨a,b,λi o' hi=>(U_ i o' hi).trans (d i o' hi)⟩
 ·exact .inr ⟨a,h.put n⟩
def Gs.grow(h:Gs e fr m0 nl0 t0 m c nl t)(v:∀i o,fr<:+i->m0 i o=none)(z:BY m0 e nl0 t0 emp=true):I6 m e (.slice nl t xs):=by
 rcases h with ⟨rfl,rfl,d⟩|⟨a,h⟩
 ·exact eC z (λn w=>d _ _ (pE v w))
 ·obtain⟨s,j,b,p⟩:=h.name;exact .inr ⟨h.tok,by rw[b];simp⟩
def Gs.nil(h:Gs e fr m0 nl0 t0 m c nl t)(z:BY m0 e nl0 t0 emp=true):nl=true->emp=true:=by
 rcases h with ⟨rfl,rfl,d⟩|⟨a,_⟩
 ·grind [BY]
 ·rw[a];intro h;cases h
def Gs.app(h:Gs e fr m0 nl0 t0 m c nl t)(n:c<=k)(f:k<c'):Gd e fr m0 nl0 t0 (Ha.app m (Be e (l++k::fr) (.slice nl t xs))) c' (l++k::fr):=by
 refine⟨⟨l,k,rfl,f⟩,by rw[Dm,if_pos ⟨rfl,rfl⟩],λi o hi=>?_⟩;have q:i≠l++k::fr:=λe=>hi (e▸iX l k fr)
 rw[Dm,if_neg (λx=>q x.1)];rcases h with ⟨rfl,rfl,d⟩|⟨rfl,h⟩
 ·grind [BC]
 ·obtain⟨s,j,b,p⟩:=h.name;have ia:i≠t:=λe=>hi (by rw[e,b];exact iX s j fr)
  rw[if_neg (λx=>ia x.2.1)];exact h.out i o hi
def Gd.fin(h:Gd e fr m0 nl0 t0 m c t)(v:∀i o,fr<:+i->m0 i o=none)(z:BY m0 e nl0 t0 emp=true):∀i o x,Ha.app m0 (Be e t (.slice nl0 t0 xs)) i o=some x->m i o=some x:=by
 intro i o x q;rw[Dm]at q;by_cases u:i=t∧o=0
 ·rw[if_pos u]at q;rw[u.1,u.2,h.tok];exact q
 ·rw[if_neg u]at q;by_cases f:nl0=false∧i=t0∧o=0
  ·obtain⟨rfl,rfl,rfl⟩:=f;rw[if_pos ⟨rfl,rfl,rfl⟩]at q;rw[h.out _ _ (pE v (EY z rfl)),if_neg U,BC,if_pos ⟨rfl,rfl⟩];exact q
  ·rw[if_neg f]at q;by_cases hi:fr<:+i
   ·simp_all
   ·rw[h.out i o hi];cases nl0 with
    |true=>exact q
    |false=>simp only[QR,if_false,BC];rw[if_neg (λx=>f ⟨rfl,x⟩)];exact q
end
def Ll{P:Program}{S:GZ}{f:FuncId}{N:Nat}{dc:DC}{rs:List RV}(hS:GZ.ok P S)(hf:Fn P f N dc rs){q:HF}(ea:∀ds m m' fr,(∀l∈q.rd ds m,m l.1 l.2=m' l.1 l.2)->q.ex ds m fr=q.ex ds m' fr)
  (hq:∀ds m fr r u,q.ex ds m fr=some (r,u)->(∀i o,fr<:+i->m i o=none)->ds.length<=N∧dc.wp S fr (Ee rs λd m'=>d=r∧∀i o x,Ha.app m u i o=some x->m' i o=some x) ⟨BL ds,m,0⟩):q.ok P f:=by
 obtain⟨fn,ba,h1,y,h3,p,h5,h6⟩:=hf.is;refine⟨⟨fn,h1,Xw,h3⟩,ea,?_⟩;intro B w0 w m g fr ds vs r u hi b hl c z;have j:∀k i,(k::fr)<:+i->B1 m g i:=λk i h=>b i ((QH k fr).trans h)
 obtain⟨hN,za⟩:=hq ds m fr r u z (λi o h=>(b i h).1 o);have oa:=Gy (ns:=fr) hS hf hN hi j hl c za;refine oa.mono ?_;rintro e s ⟨v,d,m',g',rfl,ka,n,t,ya,rfl,qa⟩;refine⟨v,g',rfl,ka.less qa,n,ya,λi hf a=>?_⟩;obtain⟨k1,k2,k3⟩:=t i hf a;refine⟨λo=>?_,k2,k3⟩;cases hx:Ha.app m u i o with
 |none=>rfl
 |some x=>exact absurd (k1 o) (by rw[qa i o x hx];simp)
def gQ(e:Nat)(F:List D->Option (List D×List Nat)):HF where
 rd:=λds _=>match ds with
  | .slice _ t _::_=>[(t,0)]
  |_=>[]
 ex:=λds m fr=>match ds with
  | .slice nl t xs::rest=>if BY m e nl t xs.isEmpty=true∧xs.length<=100000000 then(F rest).map λy=>(.slice false (y.2++fr) (xs++y.1),Be e (y.2++fr) (.slice nl t xs))else none
  |_=>none
def aQH{e:Nat}{F:List D->Option (List D×List Nat)}(ds:List D)(m m':G6)(fr:Id)(h:∀l∈(gQ e F).rd ds m,m l.1 l.2=m' l.1 l.2):(gQ e F).ex ds m fr=(gQ e F).ex ds m' fr:=by
 simp only[gQ]at h ⊢;split
 ·rename_i nl t xs r;rw[Es (h (t,0) U)]
 ·rfl
def aQI{e:Nat}{F:List D->Option (List D×List Nat)}{ds:List D}{m:G6}{fr:Id}{d:D}{u:Ha}(h:(gQ e F).ex ds m fr=some (d,u)):
  ∃nl t xs r ys l,ds= .slice nl t xs::r∧BY m e nl t xs.isEmpty=true∧xs.length<=100000000∧F r=some (ys,l)∧d= .slice false (l++fr) (xs++ys)∧u=Be e (l++fr) (.slice nl t xs):=by
 simp only[gQ]at h;split at h
 ·rename_i nl t xs r;split at h
  ·rename_i o;rw[Qj]at h;obtain⟨⟨ys,l⟩,z,h⟩:=h;simp only[Qr]at h;exact⟨nl,t,xs,r,ys,l,rfl,o.1,o.2,z,h.1.symm,h.2.symm⟩
  ·cases h
 ·cases h
def aLE{e:Nat}{F:List D->Option (List D×List Nat)}{m:G6}{fr:Id}{nl:Bool}{t:Id}{xs r ys:List D}{l:List Nat}{K:D×Ha->Prop}{g}(h0:I6 m e (.slice nl t xs))(o:nl=true->xs=[])(hl:xs.length<=100000000)(z:F r=some (ys,l))
  (h:K (.slice false (l++fr) (xs++ys),Be e (l++fr) (.slice nl t xs))):Hm ((gQ e F).ex (.slice nl t xs::r) m fr) K g:=by
 refine aH ?_ h;have a:BY m e nl t xs.isEmpty=true:=by
  unfold BY;cases nl with
  |true=>rw[if_pos rfl,o rfl];rfl
  |false=>
   rcases h0 with h0|⟨u,f⟩
   ·cases h0
   ·simp_all
 simp only[gQ];rw[if_pos ⟨a,hl⟩,z];rfl
def iJ:Nat->Int->List UInt8
 |0,_=>[]
 |k+1,n=>UInt8.ofNat ((n.fdiv (2 ^ (8*k))) % 256).toNat::iJ k n
theorem beB_len:∀k n,(iJ k n).length=k
 |0,_=>rfl
 |k+1,n=>by simp[iJ,beB_len k n]
def GN:D->Bool
 | .int .u8 _=>true
 |_=>false
def grownQ:HF where
 rd:=λ_ _=>[]
 ex:=λds _ fr=>match ds with
  |[.slice _ _ xs,.int .i64 k]=>if 0<=k∧xs.all GN=true∧(xs.length:Int)+k<=140737488355328 then some (.slice false (0::fr) xs,[(0::fr,0,[.tok 6])])else none
  |_=>none
def cQ(e:Nat)(wr:D->D)(F:List D->Option (List D×List Nat)):HF where
 rd:=λ_ _=>[]
 ex:=λds _ fr=>match ds with
  | .slice _ _ xs::rest=>if xs.all GN=true∧xs.length<=100000000 then(F rest).map λy=>(wr (.slice false (y.2++fr) (xs++y.1)),[(y.2++fr,0,[.tok (e+1)])])else none
  |_=>none
def aQ5{e:Nat}{wr:D->D}{F:List D->Option (List D×List Nat)}{ds:List D}{m:G6}{fr:Id}{d:D}{u:Ha}(h:(cQ e wr F).ex ds m fr=some (d,u)):
  ∃nl t xs r ys l,ds= .slice nl t xs::r∧xs.all GN=true∧xs.length<=100000000∧F r=some (ys,l)∧d=wr (.slice false (l++fr) (xs++ys))∧u=[(l++fr,0,[.tok (e+1)])]:=by
 simp only[cQ]at h;split at h
 ·rename_i nl t xs r;split at h
  ·rename_i o;rw[Qj]at h;obtain⟨⟨ys,l⟩,z,h⟩:=h;simp only[Qr]at h;exact⟨nl,t,xs,r,ys,l,rfl,o.1,o.2,z,h.1.symm,h.2.symm⟩
  ·cases h
 ·cases h
def aLF{e:Nat}{wr:D->D}{F:List D->Option (List D×List Nat)}{m:G6}{fr:Id}{nl:Bool}{t:Id}{xs r ys:List D}{l:List Nat}{K:D×Ha->Prop}{g}(x:xs.all GN=true)(hl:xs.length<=100000000)(z:F r=some (ys,l))
  (h:K (wr (.slice false (l++fr) (xs++ys)),[(l++fr,0,[.tok (e+1)])])):Hm ((cQ e wr F).ex (.slice nl t xs::r) m fr) K g:=by
 refine aH ?_ h;simp only[cQ];rw[if_pos ⟨x,hl⟩,z];rfl
def T8(a:List UInt8):(Az a).all GN=true:=by
 rw[Qs];intro x q;obtain⟨c,_,rfl⟩:=Q_.1 q;rfl
def Gd.finc{e:Nat}{fr:Id}{m0 m:G6}{t0 t:Id}{c:Nat}(h:Gd e fr m0 true t0 m c t)(v:∀i o,fr<:+i->m0 i o=none):∀i o x,Ha.app m0 [(t,0,[.tok (e+1)])] i o=some x->m i o=some x:=
 h.fin (emp:=true) (xs:=[]) v (by unfold BY;rfl)
def aCv{m:G6}{fr:Id}{nl:Bool}{t:Id}{xs:List D}{k:Int}(o:0<=k)(x:xs.all GN=true)(hl:(xs.length:Int)+k<=140737488355328):grownQ.ex [.slice nl t xs,.int .i64 k] m fr=some (.slice false (0::fr) xs,[(0::fr,0,[.tok 6])]):=by
 grind [grownQ]
def SX{n:Int}(h:0<=n)(z:n<18446744073709551616):IntKind.u64.wrap n=n:=by
 have:IntKind.u64.wrap n=n % 18446744073709551616:=YA
 rw[this];omega
def aG9(d:D):D:= .tup [d,.int .i64 0]
def mQ(n:Nat)(F:List D->List D->Option (D×List D)):HF where
 rd:=λds _=>match ds with
  | .ptr i 0::_=>Aj i 0 n
  |_=>[]
 ex:=λds m _=>match ds with
  | .ptr i 0::rest=>match Ag m i 0 n with
   |some cs=>(F cs rest).map λy=>(y.1,[(i,0,y.2)])
   |none=>none
  |_=>none
def aPE{n:Nat}{F:List D->List D->Option (D×List D)}(ds:List D)(m m':G6)(fr:Id)(h:∀l∈(mQ n F).rd ds m,m l.1 l.2=m' l.1 l.2):(mQ n F).ex ds m fr=(mQ n F).ex ds m' fr:=by
 grind [mQ,BH]
def Vj{n:Nat}{F:List D->List D->Option (D×List D)}{i:Id}{m:G6}{r:List D}{fr:Id}:(mQ n F).ex (.ptr i 0::r) m fr=(Ag m i 0 n).bind λcs=>(F cs r).map λy=>(y.1,[(i,0,y.2)]):=by
 grind [mQ,Ag]
def aPF{n:Nat}{F:List D->List D->Option (D×List D)}{ds:List D}{m:G6}{fr:Id}{r:D}{u:Ha}(h:(mQ n F).ex ds m fr=some (r,u)):
  ∃i o cs c,ds= .ptr i 0::o∧Ag m i 0 n=some cs∧F cs o=some (r,c)∧u=[(i,0,c)]:=by
 simp only[mQ]at h;split at h
 ·rename_i i o;split at h
  ·rename_i cs na;rw[Qj]at h;obtain⟨y,z,h⟩:=h;simp only[Qr]at h;obtain⟨rfl,rfl⟩:=h;exact⟨i,o,cs,y.2,rfl,na,z,rfl⟩
  ·cases h
 ·cases h
section
variable{m m':G6}{i j:Id}{n o k:Nat}{cs ys:List D}{d:D}{fr:Id}
def Bh(h:Ag m i 0 n=some cs)(p:cs[k]?=some d):m i k=some d:=by
 grind [BG]
def US:∀{ds:List D} {m:G6} {p:Nat},(∀k d,ds[k]?=some d->m i (p+k)=some d)->Ag m i p ds.length=some ds
 |[],m,p,_=>rfl
 |x::r,m,p,h=>by
  have z:=h 0 x rfl;rw[Q8]at z;have u:=US (ds:=r) (m:=m) (p:=p+1) (λk d t=>by
   have:=h (k+1) d (by simpa using t);rw[show p+(k+1)=p+1+k by omega]at this;exact this)
  simp only[Ag,Qm,z,u,QM]
def aA1(h:Ag m i 0 n=some cs)(v:o+k<=n):Ag m i o k=some ((cs.drop o).take k):=by
 obtain⟨u,f⟩:=BG h;have hl:((cs.drop o).take k).length=k:=YI
 have:=US (i:=i) (m:=m) (p:=o) (ds:=(cs.drop o).take k) (λq d t=>by
  rw[Zw]at t;split at t
  ·grind
  ·cases t)
 rw[hl]at this;exact this
def jJ(h:Ag m i 0 n=some cs)(v:o+ys.length<=n):Ag (m.put i o ys) i 0 n=some (cs.take o++ys++cs.drop (o+ys.length)):=by
 obtain⟨u,y⟩:=BG h;have hl:(cs.take o++ys++cs.drop (o+ys.length)).length=n:=by simp only[Q6,List.length_take,ZA];omega
 have:=US (i:=i) (m:=m.put i o ys) (p:=0) (ds:=cs.take o++ys++cs.drop (o+ys.length)) (λq d t=>by
  rw[Qv];simp only[G6.put];have a:(cs.take o).length=o:=XE
  by_cases s:q<o
  ·have w:¬(True∧o<=q∧q<o+ys.length):=by omega
   first
    |rw[if_neg Xb]
    |skip
   rw[Zc,QT O,Zw,if_pos s]at t;exact Bh h t
  ·by_cases f:q<o+ys.length
   ·rw[if_pos Xb];rw[Zc,Q2 O,a,QT O]at t;exact t
   ·rw[if_neg Xb];rw[Zc,Q2 O,a,Q2 O,List.getElem?_drop]at t;rw[show o+ys.length+(q-o-ys.length)=q by omega]at t;exact Bh h t)
 rw[hl]at this;exact this
def Fp(n:Nat)(i:Id)(m m':G6):Prop:=∀(j:Id)(o:Nat)(x:D),(j≠i∨n<=o)->m j o=some x->m' j o=some x
def Fp.refl:Fp n i m m:=λ_ _ _ _ h=>h
def Fp.own(h:Fp n i m m')(y:o+ys.length<=n):Fp n i m (m'.put i o ys):=λj p x d q=>by
 have u:=h j p x d q;simp only[G6.put];split
 ·grind
 ·exact u
def Fp.new(v:∀i o,fr<:+i->m i o=none)(l:List Nat)(h:Fp n i m m'):Fp n i m (m'.put (l++k::fr) o ys):=λj p x d q=>by
 have u:=h j p x d q;have ga:j≠l++k::fr:=λe=>by
  rw[e,v _ _ ⟨l++[k],U⟩]at q;cases q
 rw[aA ga];exact u
def bG(v:∀i o,fr<:+i->m i o=none)(h:Fp n i m m'):Fp n i m (m'.put (k::fr) o ys):=Fp.new v [] h
end
theorem aYg {P : Program} {S : GZ} {f : FuncId} {N : Nat} {dc : DC} {rs : List RV} (hS : GZ.ok P S) (hf : Fn P f N dc rs) {n : Nat} {F : List D → List D → Option (D × List D)} (g : 0 < n) (hN : ∀ cs ba y, F cs ba = some y → ba.length + 1 ≤ N)
  (h : ∀ (i : Id) (m : G6) (fr : Id) (cs ba : List D) (r : D) (da : List D), Ag m i 0 n = some cs → F cs ba = some (r, da) → (∀ j o, fr <:+ j → m j o = none) → (∀ k l, (i = l ++ k :: fr) = False) → (∀ k, (i = k :: fr) = False) →
   dc.wp S fr (Ee rs fun d m' => d = r ∧ Ag m' i 0 n = some da ∧ Fp n i m m') ⟨BL (.ptr i 0 :: ba), m, 0⟩) : (mQ n F).ok P f := by
 refine Ll hS hf aPE (fun ds m fr r u z v => ?_)
 obtain ⟨i, ba, cs, da, rfl, na, hF, rfl⟩ := aPF z
 have ua : ∃ x, m i 0 = some x := by
  obtain ⟨q, w⟩ := BG na
  have := w 0 g
  rw [Qc O] at this
  exact ⟨_, this⟩
 obtain ⟨x0, c⟩ := ua
 have ia : ∀ k l, (i = l ++ k :: fr) = False := fun k l => eq_false (fun e => by
  rw [e, v _ _ ⟨l ++ [k], U⟩] at c
  cases c)
 refine ⟨hN _ _ _ hF, ?_⟩
 have t := h i m fr cs ba r da na hF v ia (fun k => ia k [])
 refine Mc t (fun e p s => ?_)
 obtain ⟨b, d, fa, rfl, la, ho⟩ := s
 refine ⟨b, d, fa, rfl, fun j o x hx => ?_⟩
 obtain ⟨q, w⟩ := BG la
 have pa : (m.put i 0 da) j o = some x := hx
 by_cases hj : j = i
 ·subst hj
  by_cases a : o < n
  ·grind [G6.put]
  ·have qa : m j o = some x := by
    simp only [G6.put] at pa
    rw [if_neg (by simp; omega)] at pa
    exact pa
   exact ho j o x (.inr O) qa
 ·rw [aA hj] at pa
  exact ho j o x (.inl hj) pa
section
variable{α:Type}{mk:α->List D}{ok:α->Prop}{res:α->D}
open Classical in
def FX(mk:α->List D)(ok:α->Prop)(res:α->D):List D->Option D:=λds=>if h:∃a,ok a∧mk a=ds then some (res (Classical.choose h))else none
def B5(inj:∀a b,mk a=mk b->a=b){a:α}(x:ok a):FX mk ok res (mk a)=some (res a):=by
 have h:∃b,ok b∧mk b=mk a:=⟨a,x,rfl⟩;unfold FX;rw[dif_pos h,inj _ _ (Classical.choose_spec h).2]
def Ds{ds:List D}{r:D}(h:FX mk ok res ds=some r):∃a,ok a∧mk a=ds∧res a=r:=by
 unfold FX at h;split at h
 ·grind
 ·cases h
def Da{P:Program}{S:GZ}{f:FuncId}{N:Nat}{t:DC}{rs:List RV}(g:GZ.ok P S)(e:Fn P f N t rs)(b:∀a,(mk a).length<=N)
  (z:∀a,ok a->t.wp S [] (Ee rs λd _=>d.unR=res a∧(res a).calmR=true) ⟨BL (mk a),λ_ _=>none,0⟩):(Ac (FX mk ok res)).ok P f:=by
 refine AM g e (λds r h=>?_) (λds r h=>?_)
 ·obtain⟨a,_,rfl,_⟩:=Ds h;exact b a
 ·obtain⟨a,x,rfl,rfl⟩:=Ds h;exact z a x
end
def mkJ(p:List (List UInt8)×List UInt8):List D:=[.slice false [] (p.1.map .str),.str p.2]
def aHF(x y:List (List UInt8)×List UInt8)(e:mkJ x=mkJ y):x=y:=by
 simp only[mkJ,Qk,D.slice.injEq,D.str.injEq,true_and,and_true]at e;exact ZR ((List.map_inj_right (λa b h=>Xl)).1 e.1) e.2
def aLQ:∀l:List (List UInt8),flat (l.map D.str)=l.map D.str
 |[]=>rfl
 |x::r=>by
  have ih:=aLQ r;simp only[Q0,flat,ih];rfl
def dU:List D->Option D:=FX mkJ (λp=>p.1≠[]∧p.1.length<=1000∧CN p.1<=1000000∧p.2.length<=1000∧(Lib.join p.1 p.2).length<=10000000) (λp=> .str (Lib.join p.1 p.2))
def aCh {P:Program} {ρ:Go.Shelf.Ren} (L:Go.Proofs.Lays.n156 P ρ) (X:Go.Proofs.Builder.Extra P ρ) (ua:∃fn,P.funcs[ρ.f 156]?=some fn∧fn.body.isSome=true∧(fn.name== "runtime.NumGoroutine")=false):(Ac dU).ok P (ρ.f 156):=by
 refine⟨ua,λds m m' fr _=>rfl,?_⟩;intro B w0 w m g fr ds vs r u hi fa hl da y;simp only[Ac]at y;split at y
 ·rename_i ia;rw[Qj]at y;obtain⟨r',hr,y⟩:=y;simp only[Qr]at y;obtain⟨rfl,rfl⟩:=y;obtain⟨⟨l,s⟩,⟨q,h2,h3,h4,h5⟩,p,rfl⟩:=Ds hr;simp only at q h2 h3 h4 h5;have ca:∀(j:Nat) d v,(mkJ (l,s))[j]?=some d->vs[j]?=some v->Rep w g d v:=by
   intro j d v t hv;rw[p,QL,Qj]at t;obtain⟨d',na,rfl⟩:=t;exact(da j d' v na hv).un
  have ba:ds.length=2:=by
   have:=congrArg ZQ p;simpa[mkJ]using this.symm
  match vs,hl.trans ba with
  |[v,v1],_=>
   have r0:=ca 0 _ v rfl rfl;have r1:=ca 1 _ v1 rfl rfl;rw[r1.str_inv];obtain⟨ad,n,c,sz,ws,rfl,hn,za,ja,ya,o,oa,_⟩:=r0.slice_list;have la:n=l.length:=by simpa using hn
   subst la;have ob:sz=1:=by
    cases l with
    |nil=>exact absurd rfl q
    |cons x r=>exact(ja (.str x) U).symm
   subst ob;have ma:=aLQ l;rw[ma]at o;have ha:∀(j:Nat) z,l[j]?=some z->w.cell? (ad.add j)=some (.string ⟨z.toArray⟩):=by
    intro j z hz;have hj:j<l.length:=(Qo.1 hz).1;have k:j<ws.length:=by rw[ya];omega
    have t:(l.map D.str)[j]?=some (.str z):=by rw[QL,hz];rfl
    have:=o.2.2 j (.str z) ws[j] t (Qc k);rw[oa j ws[j] (Qc k),this.str_inv]
   obtain⟨b,off,h⟩:=ad;have pa:0<l.length:=List.length_pos_iff.2 q;have ea:=ha 0 _ (Qc pa);have e:h=none:=by simpa[Addr.add]using World.cell?_spot ea
   subst e;have a:b<w.heap.size:=by simpa[Addr.add]using World.block_lt_of_cell? _ _ ea
   have ka:(l.map λx=>(⟨x.toArray⟩:ByteArray)).map (·.data.toList)=l:=Yz
   have hj:(⟨s.toArray⟩:ByteArray).data.toList=s:=rfl;have:=Go.Proofs.Any.strings_Join L X b off c (l.map λx=>(⟨x.toArray⟩:ByteArray)) ⟨s.toArray⟩ w (λj x hx=>by
    rw[QL,Qj]at hx;obtain⟨z,hz,rfl⟩:=hx;have:=ha j z hz;rw[E8]at this;exact this) a Xb Xb (by rw[ka,hj];omega)
   rw[ka,hj,Qw]at this;refine this.mono ?_;rintro ev w' ⟨rfl,hb⟩;exact⟨_,g.over w w',rfl,hi.over hb,Ht.over hi.gz hb,.str _,λi hf _=>hf⟩
 ·cases y
section
variable{α:Type}{mk:α->List D×List D}{ok:α->Prop}{res:α->D×List D}
end
section
variable{α:Type}{mk:α->List D×List D}{ok:α->Prop}{res:α->D×Id×(Id->List D)}
end
def aPK{R:St->Ex->St->Prop}(c:∀y g a v r,R y g a->R y v r->g=v∧a=r):∀{n1 y g a},Lp R n1 y g a->∀{n2 v r},Lp R n2 y v r->g=v∧a=r:=by
 intro n1 y g a u;induction u with
 |stop y e x h q=>
  intro n2 v r f;cases f with
  |stop _ _ _ z _=>exact c _ _ _ _ _ h z
  |more n _ ia _ _ z _=>exact absurd (c _ _ _ _ _ h z).1 q
 |more n y ia e x h hl ih=>
  intro n2 v r f;cases f with
  |stop _ _ _ z q=>exact absurd (c _ _ _ _ _ h z).1.symm q
  |more s _ p _ _ z b=>
   have:=(c _ _ _ _ _ h z).2;subst this;exact ih b
def aQN{S:GZ}{ns:Id}:∀{t:DC} {y:St} {n:Ex} {s1:St} {v:Ex} {r:St},Ev S ns t y n s1->Ev S ns t y v r->n=v∧s1=r:=by
 intro t;induction t with
 |skip=>rintro y n s1 v r ⟨rfl,rfl⟩ ⟨rfl,rfl⟩;exact⟨rfl,rfl⟩
 |ret=>rintro y n s1 v r ⟨rfl,rfl⟩ ⟨rfl,rfl⟩;exact⟨rfl,rfl⟩
 |exit i=>rintro y n s1 v r ⟨rfl,rfl⟩ ⟨rfl,rfl⟩;exact⟨rfl,rfl⟩
 |row ops=>
  rintro y n ⟨a1,w,c1⟩ v ⟨s,m,p⟩ ⟨rfl,u,z⟩ ⟨rfl,f,k⟩;rw[u]at f;simp only[Qb,Qr]at f;simp only at z k;exact⟨rfl,by rw[f.1,f.2,z,k]⟩
 |drawn ops ps=>
  rintro y n ⟨a1,w,c1⟩ v ⟨s,m,p⟩ ⟨rfl,⟨j,u,_⟩,z⟩ ⟨rfl,⟨f2,f,_⟩,k⟩;rw[u]at f;simp only[Qb,Qr]at f;simp only at z k;exact⟨rfl,by rw[f.1,f.2.1,z,k]⟩
 |seq a b e d=>
  rintro y n s1 v r ⟨x1,y1,u,x⟩ ⟨x2,y2,f,g⟩;obtain⟨rfl,rfl⟩:=e u f;rcases x with ⟨n1,x⟩|⟨n1,rfl,rfl⟩<;>rcases g with ⟨n2,g⟩|⟨n2,rfl,rfl⟩
  ·exact d x g
  ·exact absurd n1 n2
  ·exact absurd n2 n1
  ·exact Y4
 |cond c a b e d=>
  rintro y n s1 v r u f;rcases u with ⟨q,u⟩|⟨q,u⟩<;>rcases f with ⟨o,f⟩|⟨o,f⟩
  ·exact e u f
  ·rw[q]at o;simp at o
  ·rw[q]at o;simp at o
  ·exact d u f
 |block i c ih=>
  rintro y n s1 v r ⟨x1,u,x⟩ ⟨x2,f,g⟩;obtain⟨rfl,rfl⟩:=ih u f;rcases x with ⟨n1,rfl⟩|⟨n1,rfl⟩<;>rcases g with ⟨n2,rfl⟩|⟨n2,rfl⟩
  ·exact Y4
  ·exact absurd n1 n2
  ·exact absurd n2 n1
  ·exact Y4
 |loop c ih=>
  rintro y n s1 v r ⟨n1,u⟩ ⟨n2,f⟩;exact aPK (R:=Ev S ns c) (λy n s1 v r h h'=>@ih y n s1 v r h h') u f
def RG{S:GZ}{ns:Id}{t:DC}{rs:List RV}{x b:D->G6->Prop}{y:St}(u:t.wp S ns (Ee rs x) y)(f:t.wp S ns (Ee rs b) y):∃d m,x d m∧b d m:=by
 obtain⟨n,a,c,_,j,s,k⟩:=u;obtain⟨v,w,g,_,z,o,r⟩:=f;obtain⟨rfl,rfl⟩:=aQN c g;rw[s]at o;simp only[Qb]at o;subst o;exact⟨_,_,k,r⟩
def aAG(S:GZ)(t:DC)(rs:List RV)(N:Nat)(ds:List D)(r:D):Prop:=ds.length<=N∧t.wp S [] (Ee rs λd _=>d.unR=r∧r.calmR=true) ⟨BL ds,λ_ _=>none,0⟩
open Classical in
def RF(S:GZ)(t:DC)(rs:List RV)(N:Nat):List D->Option D:=λds=>if h:∃r,aAG S t rs N ds r then some (Classical.choose h)else none
def aAT{S:GZ}{t:DC}{rs:List RV}{N:Nat}{ds:List D}{r:D}(h:RF S t rs N ds=some r):aAG S t rs N ds r:=by
 unfold RF at h;split at h
 ·grind
 ·cases h
def Al{S:GZ}{t:DC}{rs:List RV}{N:Nat}{ds:List D}{r:D}(b:ds.length<=N)(h:t.wp S [] (Ee rs λd _=>d.unR=r∧r.calmR=true) ⟨BL ds,λ_ _=>none,0⟩):RF S t rs N ds=some r:=by
 have q:∃r,aAG S t rs N ds r:=⟨r,b,h⟩;unfold RF;rw[dif_pos q];obtain⟨d,_,u,f⟩:=RG (Classical.choose_spec q).2 h;rw[←u.1,f.1]
def Am{P:Program}{S:GZ}{f:FuncId}{N:Nat}{t:DC}{rs:List RV}(d:Fn P f N t rs)(g:GZ.ok P S):(Ac (RF S t rs N)).ok P f:=
 AM g d (λds r h=>(aAT h).1) (λds r h=>(aAT h).2)
theorem Hs{m:G6}{i:Id}{ds:List D}{n:Nat}(h:ds.length=n):Ag (m.put i 0 ds) i 0 n=some ds:=by
 subst h;exact US (λk d p=>by rw[aE (Qo.1 p).1,p])
def Bv{S:GZ}{ns:Id}{b:DC}{Q:Ex->St->Prop}{n:Nat}{I:Nat->St->Prop}(k:∀j,j<n->(∀y g,I (j+1) y->Ba S ns b Q y g)->∀y g,I j y->Ba S ns b Q y g)(v:∀y g,I n y->Ba S ns b Q y g):∀j,j<=n->∀y g,I j y->Ba S ns b Q y g:=by
 have z:∀f j,n=j+f->∀y g,I j y->Ba S ns b Q y g:=by
  intro f;induction f with
  |zero=>
   intro j d y g q;have:j=n:=O
   subst this;exact v y g q
  |succ f ih=>intro j d y g q;exact k j O (λy g h=>ih (j+1) O y g h) y g q
 exact λj d=>z (n-j) j O
def aAF(S:GZ)(t:DC)(rs:List RV)(N n:Nat)(cs r:List D)(y:D×List D):Prop:=cs.length=n∧r.length+1<=N∧∀(i:Id)(m:G6)(fr:Id),Ag m i 0 n=some cs->(∀j o,fr<:+j->m j o=none)->(∀k l,(i=l++k::fr)=False)->(∀k,(i=k::fr)=False)->
 t.wp S fr (Ee rs λd m'=>d=y.1∧Ag m' i 0 n=some y.2∧Fp n i m m') ⟨BL (.ptr i 0::r),m,0⟩
def aHv(cs:List D)(n:Nat)(hl:cs.length=n)(g:0<n):∃m:G6,Ag m [0] 0 n=some cs∧(∀j o,[1]<:+j->m j o=none)∧(∀k l,(([0]:Id)=l++k::[1])=False)∧(∀k,(([0]:Id)=k::[1])=False):=by
 refine⟨G6.put (λ_ _=>none) [0] 0 cs,Hs hl,λj o d=>?_,λk l=>eq_false (λe=>?_),λk=>eq_false (λe=>by simp at e)⟩
 ·rw[aA];rintro rfl;obtain⟨t,u⟩:=d;have:=congrArg ZK u;simp at this
 ·have:=congrArg ZK e;simp at this
open Classical in
def RM(S:GZ)(t:DC)(rs:List RV)(N n:Nat):List D->List D->Option (D×List D):=λcs r=>if h:∃y,aAF S t rs N n cs r y then some (Classical.choose h)else none
def aAQ{S:GZ}{t:DC}{rs:List RV}{N n:Nat}{cs r:List D}{y:D×List D}(h:RM S t rs N n cs r=some y):aAF S t rs N n cs r y:=by
 unfold RM at h;split at h
 ·grind
 ·cases h
def aTb{S:GZ}{t:DC}{rs:List RV}{N n:Nat}{cs r:List D}{y:D×List D}(g:0<n)(hl:cs.length=n)(b:r.length+1<=N) (h:∀(i:Id)(m:G6)(fr:Id),Ag m i 0 n=some cs->(∀j o,fr<:+j->m j o=none)->(∀k l,(i=l++k::fr)=False)->(∀k,(i=k::fr)=False)->
  t.wp S fr (Ee rs λd m'=>d=y.1∧Ag m' i 0 n=some y.2∧Fp n i m m') ⟨BL (.ptr i 0::r),m,0⟩):RM S t rs N n cs r=some y:=by
 have q:∃y,aAF S t rs N n cs r y:=⟨y,hl,b,h⟩;unfold RM;rw[dif_pos q];obtain⟨m,w,x,e,z⟩:=aHv cs n hl g;obtain⟨d,m',u,f⟩:=RG ((Classical.choose_spec q).2.2 [0] m [1] w x e z) (h [0] m [1] w x e z);have c:=u.1.symm.trans f.1;have v:=u.2.1.symm.trans f.2.1;simp only[Qb]at v;rw[show Classical.choose q=y from ZR c v]
def aTa{P:Program}{S:GZ}{f:FuncId}{N n:Nat}{t:DC}{rs:List RV}(d:Fn P f N t rs)(g:0<n)(s:GZ.ok P S):(mQ n (RM S t rs N n)).ok P f:=by
 refine aYg s d g (λcs o y j=>(aAQ j).2.1) (λi m fr cs o r c na z v u w=>?_);exact(aAQ z).2.2 i m fr na v u w
end Go.Vd
namespace Go.Vd
open Go.Proofs Go.RowKit
def aUo{x:D}{l:List D}{n:Nat}:(x::l).take (n+1)=x::l.take n:=rfl
def aUp{l:List D}:l.take 0=[]:=rfl
def aUE{l:List D}:l.drop 0=l:=rfl
def aUD{x:D}{l:List D}{n:Nat}:(x::l).drop (n+1)=l.drop n:=rfl
def aYa{x:D}{f:D->Option (List D)}:(some x).bind f=f x:=rfl
def aUv{f:D->Option (List D)}:(none:Option D).bind f=none:=rfl
def aX9{x:List D}{f:List D->List D}:(some x).map f=some (f x):=rfl
def aUu{x:List D}{f:List D->D}:(some x).map f=some (f x):=rfl
def aUt{x:D}{f:D->D}:(some x).map f=some (f x):=rfl
def aUs{x:D}{f:D->List D}:(some x).map f=some (f x):=rfl
def aYb{x:List D}:(some x).isSome=true:=rfl
def aUz{x:D}:(some x).isSome=true:=rfl
def aYd{a b:Nat}{l t:List Nat}:(a::l=b::t)=(a=b∧l=t):=U
def aUF{a:Nat}{l:List Nat}:(a::l=[])=False:=U
def aYe:(true=false)=False:=U
def aYf:(false=true)=False:=U
def aUy{m:G6}{n:Nat}{i:Id}{o:Nat}:dK m (some n) (.ptr i o)=(Ag m i o n).map .agg:=rfl
def aUx{m:G6}{i:Id}{o:Nat}:dK m none (.ptr i o)=m i o:=rfl
def aHg{s:Nat->D}{m:G6}{k:Option Nat}{a b:Nat}:C9 [.t b,.cell k a] s m=(dK m k (s a)).map λd=> .tup [s b,d]:=by
 simp only[C9,Ia,RV.of];cases dK m k (s a)<;>rfl
def aAV{s:Nat->D}{m:G6}{k:Option Nat}{a b c:Nat}:C9 [.cell k a,.t b,.t c] s m=(dK m k (s a)).map λd=> .tup [d,s b,s c]:=by
 simp only[C9,Ia,RV.of];cases dK m k (s a)<;>rfl
def UO{s:Nat->D}{m:G6}{k:Option Nat}{a b c e:Nat}:C9 [.cell k a,.t b,.t c,.t e] s m=(dK m k (s a)).map λd=> .tup [d,s b,s c,s e]:=by
 simp only[C9,Ia,RV.of];cases dK m k (s a)<;>rfl
def HY{s:Nat->D}{m:G6}{k:Option Nat}{a b:Nat}:C9 [.cell k a,.t b] s m=(dK m k (s a)).map λd=> .tup [d,s b]:=by
 simp only[C9,Ia,RV.of];cases dK m k (s a)<;>rfl
def aUC{cs:List D}:Cn cs []=some cs:=rfl
def aYc{cs:List D}{o n:Nat}{d:D}{r:List (Nat×Nat×D)}:Cn cs ((o,n,d)::r)=if d.data=true∧d.cells.length=n∧o+n<=cs.length then Cn (Fz cs o d.cells) r else none:=rfl
def aX8{cs ds:List D}{o:Nat}:Fz cs o ds=cs.take o++ds++cs.drop (o+ds.length):=rfl
def aUw{nl:Bool}{t u:Id}{xs:List D}:IF 0 (.slice nl t xs) (.slice true u [])=some nl:=by cases nl<;>rfl
def aUJ:(true !=false)=true:=rfl
def aUI:(false !=false)=false:=rfl
def aUH:(true !=true)=false:=rfl
def aUG:(false !=true)=true:=rfl
def aUA{m:G6}{e:Nat}{f t:Id}{xs:List D}:Ha.app m (Be e f (.slice true t xs))=m.put f 0 [.tok (e+1)]:=rfl
def aUB{m:G6}{e:Nat}{f t:Id}{xs:List D}:Ha.app m (Be e f (.slice false t xs))=(m.put t 0 [.tok 0]).put f 0 [.tok (e+1)]:=rfl
def aUr{x y:D}{l:List D}:(x::l).set 0 y=y::l:=rfl
def aUq{x y:D}{l:List D}{n:Nat}:(x::l).set (n+1) y=x::l.set n y:=rfl
set_option linter.defProp false
def GY:=Qa @Ah <| Qa @Au <| Qa @Av <| Qa @Bu <| Qa @HY <| Qa @aHg <| Qa @aAV <| Qa @UO <| Qa @aUy <| Qa @aUx <| Qa @aUo <| Qa @aUp <| Qa @aUE <| Qa @aUD <| Qa @aYa <| Qa @aUv <| Qa @aX9 <| Qa @aUu <| Qa @aUt <| Qa @aUs <| Qa @aYb <| Qa @aUz <| Qa @aYd <| Qa @aUF <| Qa @aYe <| Qa @aYf <| Qa @QV <| Qa @QZ <| Qa @Qv <| Qa @true_and <| Qa @and_true <| Qa @false_and <| Qa @and_false <| Qa @and_self <| Qa @Qn <| Qa @QO <| Qa @Qu <| Qa @Nat.add_eq_right <| Qa @Bool.true_or <| Qa @Bool.or_true <| Qa @ZL <| Qa @ZM <| Qa @ZH <| Qa @ZD <| Qa @not_true_eq_false <| Qa @not_false_eq_true <| Qa @aUC <| Qa @aYc <| Qa @aX8 <| Qa @aUr <| Qa @aUq <| Qa @aUw <| Qa @aUA <| Qa @aUB <| Qa aUJ <| Qa aUI <| Qa aUH aUG
def gZ1:=Qa Hf GY
abbrev Rw:=Int×Bool×Bool
def rwD(r:Rw):D:= .agg [.int .i64 r.1,.bool r.2.1,.bool r.2.2]
def A5(l:List Rw):List D:=l.map rwD
def AQ(l:List Rw):(A5 l).length=l.length:=Qw ..
def Fw{l:List Rw}{j:Nat}(h:j<l.length):(A5 l)[j]?=some (.agg [.int .i64 l[j].1,.bool l[j].2.1,.bool l[j].2.2]):=by simp[A5,rwD,Qc h]
structure Sc where
 mx:Int
 cas:Bool
 la:Int
 nl:Bool
 rs:List Rw
def Hb(s:Sc):List D:=[.int .i64 s.mx,.bool s.cas,.int .i64 s.la,.slice s.nl [] (A5 s.rs)]
def CQ:List Rw->Int->Bool
 |[],_=>true
 |x::r,a=>decide (a<x.1)&&CQ r x.1
def Bc(s:Sc)(q:Int):Int:=if s.mx=0 then q else s.mx
def Ly(l:List Rw):Int:=match l.getLast? with
 |some x=>x.1
 |none=>0
def CV(s:Sc)(q:Int):Bool:=!decide (1<=q∧q<=6)||(!decide (0<=s.mx∧s.mx<=6)||(!decide (0<=s.la∧s.la<=30)||(decide (Bc s q<s.rs.length)||(!CQ s.rs 0||!decide (Ly s.rs=s.la)))))
def UE(s:Sc)(q:Int):Int:=if CV s q=true then 2 else 0
def aYX:=Ao []
def aRU:=RF aYX aMz [.t 2] 5
def aVg:Kq aRU 61:=Am (Ai func61) Ad
def aJk(r:Rw):aRU [.agg [.int .i64 r.1,.bool r.2.1,.bool r.2.2]]=some (.int .i64 r.1):=by
 refine Al (QG rfl) ?_;unfold aMz;simp only[↓C2,G_,GY,simprocAttr]
 all_goals exact Y0
def aYT:=Ao []
def aJb:=RF aYT aMg [.cell (some 2) 0] 2
def aLe:Kq aJb 57:=Am (Ai func57) Ad
def rV:aJb []=some (.agg [.int .i64 6,.bool false]):=by
 refine Al (QG rfl) ?_;unfold aMg;simp only[↓C2,G_,GY,simprocAttr]
 all_goals exact Y0
def aY3:=Ao []
def Sb:=RF aY3 aMW [.cell (some 2) 0] 2
def aLl:Kq Sb 273:=Am (Ai func273) Ad
def sB:Sb []=some (.agg [.int .i64 6,.bool false]):=by
 refine Al (QG rfl) ?_;unfold aMW;simp only[↓C2,G_,GY,simprocAttr]
 all_goals exact Y0
def aYY:=Ao []
def aJm:=RF aYY qQ [.t 4] 12
def aLh:Kq aJm 59:=Am aLK Ad
def rY(s:Sc)(q:Int)(b:Bool):aJm [.agg (Hb s),.agg [.int .i64 q,.bool b]]=some (.int .i64 (Bc s q)):=by
 refine Al (QG rfl) ?_;unfold qQ;unfold Bc Hb;by_cases h:s.mx=0
 ·simp only[↓C2,G_,GY,simprocAttr,h]
  all_goals exact Y0
 ·simp only[↓C2,G_,GY,simprocAttr,h]
  all_goals exact Y0
def aRk:=Ao [(61,Ac aRU)]
def aRV:=RF aRk qP [.t 4] 23
def aVh:Kq aRV 60:=Am aLJ (Aa aVg Ad)
def aJl{nl:Bool}{l:List Rw}(hl:l.length<=1000):aRV [.slice nl [] (A5 l),.fn 61 []]=some (.bool (CQ l 0)):=by
 refine Al (QG rfl) ?_;unfold qP;simp only[↓C2,G8,simprocAttr,AQ];refine Bv (n:=l.length) (I:=λj y=>y.s 8= .slice nl [] (A5 l)∧y.s 9= .int .i64 l.length∧y.s 10= .int .i64 (j:Int)∧y.s 1= .fn 61 []∧∃a,y.s 5= .int .i64 a∧CQ (l.drop j) a=CQ l 0) (λj d ih y g i=>?_) (λy g i=>?_) 0 (QV _) _ _ ⟨rfl,rfl,rfl,rfl,0,rfl,rfl⟩
 ·obtain⟨w,m,c⟩:=y;obtain⟨h8,o,r,u,a,h5,p⟩:=i;simp only at h8 o r u h5;refine Af Pe.eq_1 ?_;have k:((j:Int)<l.length):=by omega
  have z:=nJ (j:=j);have f:=wJ (j:=j) O;have v:=Fw d;have t:l.drop j=l[j]::l.drop (j+1):=Q4 d;have b:=aJk l[j];rw[t]at p;generalize l[j]=x at v p b t;by_cases q:x.1<=a
  ·have e:CQ l 0=false:=by rw[←p];simp[CQ];omega
   simp only[↓C2,G_,GY,simprocAttr,h8,o,r,u,h5,k,z,Qi,v,Ae aRk 61,b,q];rw[e]
   all_goals exact Y0
  ·have e:CQ (l.drop (j+1)) x.1=CQ l 0:=by rw[←p];simp only[CQ];rw[decide_eq_true O];rfl
   simp only[↓C2,G_,GY,simprocAttr,h8,o,r,u,h5,k,z,Qi,v,Ae aRk 61,b,q,f];exact ih _ _ ⟨h8,o,rfl,u,_,rfl,e⟩
 ·obtain⟨h8,o,r,u,a,h5,p⟩:=i;refine Af Pe.eq_1 ?_;have e:CQ l 0=true:=by rw[←p];simp[CQ]
  simp only[↓C2,G_,GY,simprocAttr,o,r,Zn];rw[e]
  all_goals exact Y0
def FU:GZ:=Ao [(58,Ac iC),(59,Ac aJm),(60,Ac aRV)]
def LB:List D->Option D:=RF FU qU [.t 4] 52
def Ro:Kq LB 25:=Am aLN (Aa aBm (Aa aLh (Aa aVh Ad)))
def GV(s:Sc)(q:Int)(b:Bool)(hl:s.rs.length<=1000):LB [.agg (Hb s),.agg [.int .i64 q,.bool b]]=some (.int .i64 (UE s q)):=by
 refine Al (QG rfl) ?_;unfold qU;have d:=rY s q b;have f:=aJl (nl:=s.nl) (l:=s.rs) hl;have c:∀x a b:Int,iC [.int .i64 x,.int .i64 a,.int .i64 b]=some (.bool (decide (a<=x∧x<=b))):=λ_ _ _=>rfl
 have o:IntKind.i64.wrap ((s.rs.length:Int)-1)=(s.rs.length:Int)-1:=Hu O O;have g:0<s.rs.length->∃x:Rw,Ly s.rs=x.1∧(A5 s.rs)[((s.rs.length:Int)-1).toNat]?=some (.agg [.int .i64 x.1,.bool x.2.1,.bool x.2.2]):=λh=>by
  have v:((s.rs.length:Int)-1).toNat=s.rs.length-1:=O
  refine⟨s.rs[s.rs.length-1],?_,by rw[v];exact Fw O⟩;unfold Ly;rw[List.getLast?_eq_getElem?,Qc O]
 have z:¬0<s.rs.length->Ly s.rs=0:=λh=>by
  have:s.rs=[]:=Zo.1 O;rw[this];rfl
 unfold UE CV;unfold Hb at d ⊢;generalize Bc s q=u at d;generalize CQ s.rs 0=r at f;generalize Ly s.rs=nw at g z;by_cases c1:1<=q∧q<=6
 case neg=>
  simp only[↓C2,G_,GY,simprocAttr,Ae FU 58,c,c1]
  all_goals exact Y0
 by_cases p:0<=s.mx∧s.mx<=6
 case neg=>
  simp only[↓C2,G_,GY,simprocAttr,Ae FU 58,c,c1,p]
  all_goals exact Y0
 by_cases y:0<=s.la∧s.la<=30
 case neg=>
  simp only[↓C2,G_,GY,simprocAttr,Ae FU 58,c,c1,p,y]
  all_goals exact Y0
 by_cases t:u<s.rs.length
 case pos=>
  simp only[↓C2,G_,GY,simprocAttr,Ae FU 58,c,Ae FU 59,d,c1,p,y,t,AQ];refine AV ?_;simp only[↓C2,G_,GY,simprocAttr,t]
  all_goals exact Y0
 cases r with
 |false=>
  simp only[↓C2,G_,GY,simprocAttr,Ae FU 58,c,Ae FU 59,d,Ae FU 60,f,c1,p,y,t,AQ];refine AV ?_;simp only[↓C2,G_,GY,simprocAttr,t]
  all_goals exact Y0
 |true=>
  by_cases m:0<s.rs.length
  ·obtain⟨x,n,w⟩:=g m;have i:(0:Int)<(s.rs.length:Int):=by omega
   have j:(0:Int)<=(s.rs.length:Int)-1:=O
   subst n;by_cases k:x.1=s.la
   ·simp only[↓C2,G_,GY,simprocAttr,Ae FU 58,c,Ae FU 59,d,Ae FU 60,f,c1,p,y,t,k,AQ];refine AV ?_;simp only[↓C2,G_,GY,simprocAttr,c1,p,y,t,i,j,o,w,k,AQ]
    all_goals exact Y0
   ·simp only[↓C2,G_,GY,simprocAttr,Ae FU 58,c,Ae FU 59,d,Ae FU 60,f,c1,p,y,t,k,AQ];refine AV ?_;simp only[↓C2,G_,GY,simprocAttr,c1,p,y,t,i,j,o,w,k,AQ]
    all_goals exact Y0
  ·have n:=z m;have i:¬(0:Int)<(s.rs.length:Int):=by omega
   subst n;by_cases k:(0:Int)=s.la
   ·have e:((0:Int)=s.la)=True:=eq_true k;simp only[↓C2,G_,GY,simprocAttr,Ae FU 58,c,Ae FU 59,d,Ae FU 60,f,c1,p,y,t,e,AQ];refine AV ?_;simp only[↓C2,G_,GY,simprocAttr,c1,p,y,t,i,e,AQ]
    all_goals exact Y0
   ·have e:((0:Int)=s.la)=False:=eq_false k;simp only[↓C2,G_,GY,simprocAttr,Ae FU 58,c,Ae FU 59,d,Ae FU 60,f,c1,p,y,t,e,AQ];refine AV ?_;simp only[↓C2,G_,GY,simprocAttr,c1,p,y,t,i,e,AQ]
    all_goals exact Y0
def aWf:=y0 f80 [] []
def aNX:=y0 f133 [] []
def aNW:=y0 f135 [] []
def aV3:=y0 f40 [] []
def Pm:=y1 f91 3 [] []
def aNn:=y0 f91 [] [(3,Pm)]
def aNm:=y0 f92 [] []
def aNU:=y0 Tryz.f195 [(2,[(5,1),(5,8),(6,1),(6,8)])] []
def aV2:=y0 f134 [] []
def aNl:=y0 f198 [] []
def aIu:=y1 f253 3 [] []
def aIt:=y1 f253 11 [] []
def aWq:=y0 f253 [] [(3,aIu),(11,aIt)]
def aWe:=y0 f196 [] []
def aWm:=y0 f81 [] []
def aWl:=y0 f13 [] []
def Po:=y1 f19 3 [] []
def aNN:=y0 f19 [] [(3,Po)]
def iR{a b:Bs}:AP .lss (.str a) (.str b)=some (.bool (Op.bytesLess a b)):=Xn
def aAh{a b:Bs}:AP .gtr (.str a) (.str b)=some (.bool (!(Op.bytesLess a b||a==b))):=Xn
def C6(a b:Bs):Int:=if Op.bytesLess a b=true then-1 else if a=b then 0 else 1
def aKp:List D->Option D
 |[.str s]=>some (.bool false)
 |_=>none
def aTT:Kq aKp 113:=by
 refine AM (S:=λ_=>none) A6 (Ai func113:Fn Qg 113 6 aNa [.t 2]) (λds r h=>?_) (λds r h=>?_)
 ·unfold aKp at h;split at h
  ·simp
  ·cases h
 ·unfold aKp at h;split at h
  ·rename_i s;simp only[Qb]at h;subst h;unfold aNa;simp only[↓C2,G_,reduceIte,Qe,Qf,and_self]
  ·cases h
def OT:List D->Option D
 |[.str a,.str b]=>some (.int .i64 (C6 a b))
 |_=>none
def pH:Kq OT 62:=by
 obtain⟨S,g,hl⟩:=Bp (Aa aTT Ad);have c:=hl 113 _ rfl;clear hl;refine AM (S:=S) g (Ai func62:Fn Qg 62 20 aNY [.t 4]) (λds r h=>?_) (λds r h=>?_)
 ·unfold OT at h;split at h
  ·simp
  ·cases h
 ·unfold OT at h;split at h
  ·rename_i a b;simp only[Qb]at h;subst h;unfold aNY;have d:∀s,aKp [.str s]=some (.bool false):=λ_=>rfl
   unfold C6;cases hl:Op.bytesLess a b with
   |true=>simp only[↓C2,G_,reduceIte,Qe,Qf,and_self,Ab c,d,iR,hl]
   |false=>
    by_cases v:a=b
    ·subst v;have z:(a==a)=true:=by simp
     simp only[↓C2,G_,reduceIte,Qe,Qf,and_self,Ab c,d,iR,aAh,hl,z,ZL]
    ·have z:(a==b)=false:=by simpa using v
     simp only[↓C2,G_,reduceIte,Qe,Qf,and_self,Ab c,d,iR,aAh,hl,z,v,ZM]
  ·cases h
def zQ:List D->Option D
 |[.agg [.str p,.int .i64 q,.bool b],.agg [.str p2,.int .i64 q2,.bool b2]]=>some (.int .i64 (C6 p p2))
 |_=>none
def aUg:Kq zQ 192:=by
 obtain⟨S,g,hl⟩:=Bp (Aa pH Ad);have o:=hl 62 _ rfl;clear hl;refine AM (S:=S) g (Ai func192:Fn Qg 192 10 aNZ [.t 4]) (λds r h=>?_) (λds r h=>?_)
 ·unfold zQ at h;split at h
  ·simp
  ·cases h
 ·unfold zQ at h;split at h
  ·rename_i p q b c d m;simp only[Qb]at h;subst h;unfold aNZ;have z:∀a b,OT [.str a,.str b]=some (.int .i64 (C6 a b)):=λ_ _=>rfl
   simp only[↓C2,Hf,reduceIte,Qe,Qf,Ah,QK,Qk,Qn,QO,Ab o,z]
  ·cases h
def zN:List D->Option D
 |[.agg [.str n,.str p,.slice nl t xs],.str s]=>some (.int .i64 (C6 n s))
 |_=>none
def aT0:Kq zN 92:=by
 obtain⟨S,g,hl⟩:=Bp (Aa pH Ad);have o:=hl 62 _ rfl;clear hl;refine AM (S:=S) g (Ai func92:Fn Qg 92 9 aNm [.t 4]) (λds r h=>?_) (λds r h=>?_)
 ·unfold zN at h;split at h
  ·simp
  ·cases h
 ·unfold zN at h;split at h
  ·rename_i n p nl t xs s;simp only[Qb]at h;subst h;unfold aNm;have z:∀a b,OT [.str a,.str b]=some (.int .i64 (C6 a b)):=λ_ _=>rfl
   simp only[↓C2,Hf,reduceIte,Qe,Qf,Ah,QK,Ab o,z]
  ·cases h
abbrev Tk:=Bs×Bs×Bool×List Rl
def PK(k:Tk):D:= .agg [.str k.1,.str k.2.1,.slice k.2.2.1 [] (Ar k.2.2.2)]
def AL(l:List Tk):List D:=l.map PK
def tkT:D->Tk
 | .agg [.str n,.str p,.slice nl _ xs]=>(n,p,nl,Br xs)
 |_=>([],[],true,[])
def DA(xs:List D):List Tk:=xs.map tkT
def BN(l:List Tk):DA (AL l)=l:=by
 simp only[DA,AL,QI]
 conv=>rhs;rw[←ZB l]
 exact QC λr _=>by simp only[Function.comp,PK,tkT,A2,id]
theorem B9(l:List Tk):(AL l).length=l.length:=Qw ..
def Bo(l:List Tk)(j:Nat):Tk:=l.getD j ([],[],true,[])
def Ld{l:List Tk}{j:Nat}(h:j<l.length):(AL l)[j]?=some (PK (Bo l j)):=by
 grind [AL,Bo]
def bsR(l:List Tk)(s:Bs):Nat->Nat->Nat->Nat
 |0,lo,_=>lo
 |f+1,lo,hi=>if lo<hi then(if C6 (Bo l ((lo+hi) / 2)).1 s<0 then bsR l s f ((lo+hi) / 2+1) hi else bsR l s f lo ((lo+hi) / 2))else lo
def Ir(l:List Tk)(s:Bs):Nat:=bsR l s l.length 0 l.length
def A0(l:List Tk)(s:Bs):Bool:=decide (Ir l s<l.length)&&decide (C6 (Bo l (Ir l s)).1 s=0)
def aQ6{lo hi:Nat}(h:lo+hi<1000000000):IntKind.i64.wrap ((IntKind.u64.wrap (IntKind.i64.wrap ((lo:Int)+(hi:Int)))).fdiv (2 ^ min (1:Int).toNat IntKind.u64.bits))=(((lo+hi) / 2:Nat):Int):=by
 have u:IntKind.i64.wrap ((lo:Int)+(hi:Int))=((lo+hi:Nat):Int):=Xh
 have f:IntKind.u64.wrap ((lo+hi:Nat):Int)=((lo+hi:Nat):Int):=by
  simp only[IntKind.wrap,IntKind.signed,IntKind.bits,Za,QR,if_false];omega
 have i:(((lo+hi:Nat):Int)).fdiv (2 ^ min (1:Int).toNat IntKind.u64.bits)=(((lo+hi) / 2:Nat):Int):=by
  rw[show(2:Int) ^ min (1:Int).toNat IntKind.u64.bits=2 from rfl,Int.fdiv_eq_ediv_of_nonneg _ O];omega
 rw[u,f,i,Hu O O]
def aHS{S:GZ}{ns:Id}{l:List Tk}{nl:Bool}{t:Id}{s:Bs}{Q:Ex->St->Prop}{e:Nat}(a:S 92=some (Ac zN))(z:l.length<=1000000)
  (ga:∀y,y.s 0= .slice nl t (AL l)->y.s 1= .str s->y.s 2= .fn 92 []->y.s 8= .int .i64 (l.length:Int)->y.s 9= .int .i64 (e:Int)->Q (.exit 0) y):
  ∀(f lo hi:Nat) y g,hi<=lo+f->hi<=l.length->bsR l s f lo hi=e->y.s 0= .slice nl t (AL l)->y.s 1= .str s->y.s 2= .fn 92 []->y.s 8= .int .i64 (l.length:Int)->y.s 9= .int .i64 (lo:Int)->y.s 10= .int .i64 (hi:Int)->Ba S ns Pm Q y g:=by
 intro f;induction f with
 |zero=>
  intro lo hi y g hf hh v h0 u w h8 h9 la;refine Af Pm.eq_1 ?_;have:¬((lo:Int)<hi):=O
  simp only[↓C2,G8,Hj,reduceIte,Qe,Qf,h9,la,this];exact ga _ h0 u w h8 (by rw[←v];exact h9)
 |succ f ih=>
  intro lo hi y g hf hh v h0 u w h8 h9 la;refine Af Pm.eq_1 ?_;unfold bsR at v;by_cases x:lo<hi
  ·rw[if_pos x]at v;have b:((lo:Int)<hi):=by omega
   have h:=aQ6 (lo:=lo) (hi:=hi) O;have za:(lo+hi) / 2<hi:=O
   have o:lo<=(lo+hi) / 2:=O
   generalize (lo+hi) / 2=mid at v h za o;have na:(0:Int)<=(mid:Int):=O
   have i:(0:Int)<=1:=O
   have hw:IntKind.i64.wrap ((mid:Int)+1)=((mid+1:Nat):Int):=Hu O O;have ja:=Ld (l:=l) (j:=mid) O;generalize Bo l mid=k at ja v;obtain⟨n,p,r,rs⟩:=k;replace ja:(AL l)[mid]?=some (.agg [.str n,.str p,.slice r [] (Ar rs)]):=ja;have d:zN [.agg [.str n,.str p,.slice r [] (Ar rs)],.str s]=some (.int .i64 (C6 n s)):=rfl;simp only at v;generalize C6 n s=c at v d;obtain⟨ka,fa,q⟩:=y;simp only at h0 u w h8 h9 la;by_cases m:c<0
   ·rw[if_pos m]at v;simp only[↓C2,G_,reduceIte,Qe,Qf,h0,u,w,h9,la,b,h,na,i,hw,ja,m,Qi,Ab a,d,QY,Qm,Qq,Qv,Qt,Qy];exact ih (mid+1) hi _ _ O hh v h0 u w h8 rfl la
   ·rw[if_neg m]at v;simp only[↓C2,G_,reduceIte,Qe,Qf,h0,u,w,h9,la,b,h,na,i,ja,m,Qi,Ab a,d,QY,Qm,Qq,Qv,Qt,Qy];exact ih lo mid _ _ O O v h0 u w h8 h9 rfl
  ·rw[if_neg x]at v;have b:¬((lo:Int)<hi):=by omega
   simp only[↓C2,G8,Hj,reduceIte,Qe,Qf,h9,la,b];exact ga _ h0 u w h8 (by rw[←v];exact h9)
def VW(l:List Tk)(s:Bs):∀(f lo hi:Nat),lo<=hi->bsR l s f lo hi<=hi
 |0,lo,hi,h=>by simpa[bsR]using h
 |f+1,lo,hi,h=>by
  unfold bsR;split
  ·split
   ·exact VW l s f _ _ O
   ·exact QP (VW l s f _ _ O) O
  ·exact h
open Classical in
def aKw:List D->Option D
 |[.slice _ _ xs,.str s,.fn 92 []]=>if xs=AL (DA xs)∧xs.length<=1000000 then some (.tup [.int .i64 (Ir (DA xs) s:Int),.bool (A0 (DA xs) s)])else none
 |_=>none
open Classical in
def aKv{nl:Bool}{t:Id}{l:List Tk}{s:Bs}(hl:l.length<=1000000):aKw [.slice nl t (AL l),.str s,.fn 92 []]=some (.tup [.int .i64 (Ir l s:Int),.bool (A0 l s)]):=by
 have h:AL l=AL (DA (AL l))∧(AL l).length<=1000000:=by rw[BN,B9];exact⟨rfl,hl⟩
 show(if _ then _ else _)=_;rw[if_pos h,BN]
def aT1:Kq aKw 91:=by
 obtain⟨S,g,hl⟩:=Bp (Aa aT0 Ad);have a:=hl 92 _ rfl;clear hl;refine AM (S:=S) g (Ai func91:Fn Qg 91 49 aNn [.t 6,.t 7]) (λds r h=>?_) (λds r h=>?_)
 ·unfold aKw at h;split at h
  ·simp
  ·cases h
 ·unfold aKw at h;split at h
  ·rename_i nl t xs s;split at h
   ·rename_i w;obtain⟨q,hl⟩:=w;simp only[Qb]at h;subst h;generalize DA xs=l at q;subst q;rw[B9]at hl;have c:Ir l s<=l.length:=VW l s _ _ _ O;unfold aNn;simp only[↓C2,G8,reduceIte,Qe,Qf,B9];refine aHS (l:=l) (nl:=nl) (t:=t) (s:=s) (e:=Ir l s) a hl (λy z u f b h9=>?_) l.length 0 l.length _ _ O O rfl rfl rfl rfl rfl rfl rfl;unfold A0;generalize Ir l s=i at h9 c;by_cases hi:i<l.length
    ·have v:((i:Int)<l.length):=by omega
     have ua:(0:Int)<=(i:Int):=O
     have x:=Ld (l:=l) (j:=i) hi;generalize Bo l i=k at x;obtain⟨n,p,o,rs⟩:=k;replace x:(AL l)[i]?=some (.agg [.str n,.str p,.slice o [] (Ar rs)]):=x;have d:zN [.agg [.str n,.str p,.slice o [] (Ar rs)],.str s]=some (.int .i64 (C6 n s)):=rfl;simp only[↓C2,G_,reduceIte,Qe,Qf,z,u,f,b,h9,v,ua,x,Qi,Ab a,d,QY,Qm,Qq,Qv,Qt,Qy];simp[hi]
    ·have v:¬((i:Int)<l.length):=by omega
     simp only[↓C2,G_,reduceIte,Qe,Qf,b,h9,v];simp[hi]
   ·cases h
  ·cases h
def oA(l:List Tk):(AL l).map D.un=AL l:=by rw[AL,QI];exact QC λ_ _=>rfl
def uA(l:List Tk):aD (AL l) 3=3:=Xy
def Fu(xs:List D):Prop:=xs=AL (DA xs)∧xs.length<=1000000
def E4{l:List Tk}(hl:l.length<=1000000):Fu (AL l):=⟨by rw[BN],by rw[B9];exact hl⟩
def EV{xs:List D}(h:Fu xs):∃l:List Tk,xs=AL l∧l.length<=1000000∧DA xs=l:=by
 refine⟨DA xs,h.1,?_,rfl⟩;have:=h.2;rw[h.1,B9]at this;exact this
open Classical in
def F93:List D->Option D
 |[.agg [.slice _ _ xs],.str s]=>if Fu xs then some (.tup [.int .i64 (Ir (DA xs) s:Int),.bool (A0 (DA xs) s)])else none
 |_=>none
open Classical in
def Oa{nl:Bool}{t:Id}{l:List Tk}{s:Bs}(hl:l.length<=1000000):F93 [.agg [.slice nl t (AL l)],.str s]=some (.tup [.int .i64 (Ir l s:Int),.bool (A0 l s)]):=by
 show(if _ then _ else _)=_;rw[if_pos (E4 hl),BN]
def aBi:Kq F93 40:=by
 obtain⟨S,g,hl⟩:=Bp (Aa aT1 Ad);have a:=hl 91 _ rfl;clear hl;refine AM (S:=S) g (Ai func40:Fn Qg 40 12 aV3 [.t 4,.t 5]) (λds r h=>?_) (λds r h=>?_)
 ·unfold F93 at h;split at h
  ·simp
  ·cases h
 ·unfold F93 at h;split at h
  ·rename_i nl t xs s;split at h
   ·rename_i w;obtain⟨l,rfl,hl,e⟩:=EV w;simp only[Qb]at h;subst h;rw[e];have b:=aKv (nl:=nl) (t:=[]) (s:=s) hl;unfold aV3;simp only[↓C2,Hf,simprocAttr,Ah,Qd,Ab a,b]
   ·cases h
  ·cases h
open Classical in
def F36:List D->Option D
 |[.agg [.slice _ _ xs],.str s,.str p]=>if Fu xs∧∀k∈DA xs,k.2.2.2.length<=1000000 then some (.int .u8 (if A0 (DA xs) s=true then Db (Bo (DA xs) (Ir (DA xs) s)).2.2.2 p else 0))else none
 |_=>none
def aX3:Kq F36 13:=by
 obtain⟨S,hS,hl⟩:=Bp (Aa aBi (Aa aPv Ad));have y:=hl 40 _ rfl;have z:=hl 41 _ rfl;clear hl;refine AM (S:=S) hS (Ai func13:Fn Qg 13 25 aWl [.t 6]) (λds r h=>?_) (λds r h=>?_)
 ·unfold F36 at h;split at h
  ·simp
  ·cases h
 ·unfold F36 at h;split at h
  ·rename_i nl t xs s p;split at h
   ·rename_i w;obtain⟨w,v⟩:=w;obtain⟨l,rfl,hl,e⟩:=EV w;rw[e]at v h;simp only[Qb]at h;subst h;have b:=Oa (nl:=nl) (t:=[]) (s:=s) hl;have hu:=oA l;unfold aWl;cases hf:A0 l s with
    |false=>simp only[↓C2,Hf,simprocAttr,Ah,Au,Av,Qd,Qh,Ab y,b,hf]
    |true=>
     have hi:Ir l s<l.length:=by
      grind [A0]
     rw[hf]at b;generalize Ir l s=i at b hi;have d:(0:Int)<=(i:Int):=O
     have x:=Ld (l:=l) (j:=i) hi;have g:Bo l i∈l:=by simp[Bo,Qc hi]
     have u:=v _ g;generalize Bo l i=k at x u;obtain⟨n,q,o,rs⟩:=k;replace x:(AL l)[i]?=some (.agg [.str n,.str q,.slice o [] (Ar rs)]):=x;have a:=nN (nl:=o) (t:=[]) (s:=p) u;simp only[↓C2,Hf,simprocAttr,Ah,Au,Av,Qd,Qh,QA,QD,QN,Ab y,b,Ab z,a,d,x,Qi]
   ·cases h
  ·cases h
def Mk(n p:Bs)(l:List Rl):Int:=if BT n=false then 2 else if Cg l≠0 then Cg l else if p=[]∧n=[114,111,111,116]then 0 else if BT p=true∧p≠n then 0 else 2
open Classical in
def zP:List D->Option D
 |[.agg [.str n,.str p,.slice _ _ xs]]=>if(xs=Ar (Br xs)∧xs.length<=1000000∧Cv (Br xs))∧n.length<=1000000∧p.length<=1000000 then some (.int .i64 (Mk n p (Br xs)))else none
 |_=>none
open Classical in
def Wn{n p:Bs}{nl:Bool}{t:Id}{l:List Rl}(hl:l.length<=1000000)(c:Cv l)(u:n.length<=1000000)(f:p.length<=1000000):zP [.agg [.str n,.str p,.slice nl t (Ar l)]]=some (.int .i64 (Mk n p l)):=by
 have h:(Ar l=Ar (Br (Ar l))∧(Ar l).length<=1000000∧Cv (Br (Ar l)))∧n.length<=1000000∧p.length<=1000000:=by rw[A2,A_];exact⟨⟨rfl,hl,c⟩,u,f⟩
 show(if _ then _ else _)=_;rw[if_pos h,A2]
def aK9:Kq zP 135:=by
 obtain⟨S,s,hl⟩:=Bp (Aa aTS (Aa cD Ad));have b:=hl 199 _ rfl;have y:=hl 168 _ rfl;clear hl;refine AM (S:=S) s (Ai func135:Fn Qg 135 34 aNW [.t 2]) (λds r h=>?_) (λds r h=>?_)
 ·unfold zP at h;split at h
  ·simp
  ·cases h
 ·unfold zP at h;split at h
  ·rename_i n p nl t xs;split at h
   ·rename_i w;obtain⟨⟨q,hl,k⟩,g,o⟩:=w;simp only[Qb]at h;subst h;generalize Br xs=l at q k;subst q;rw[A_]at hl;have a:aGa [.str n]=some (.bool (BT n)):=if_pos g;have c:aGa [.str p]=some (.bool (BT p)):=if_pos o;have f:=Wg (nl:=nl) (t:=[]) hl k;have z:=UN l;have m:=NE l;unfold aNW Mk;generalize Cg l=e at *;generalize BT p=v at *;generalize BT n=u at *;cases u with
    |false=>simp only[↓C2,Hf,simprocAttr,Ah,Ab b,a]
    |true=>
     simp only[↓C2,Hf,simprocAttr,Ah,Qd,Ab b,a,Ab y,f]
     repeat' (first|(refine aF (λh=>?_) (λh=>?_)<;>try (exfalso;omega))|(simp only[↓C2,Hf,simprocAttr,h,Ah,Qd,false_and,Ab b,c]))
     all_goals (try simp_all)
   ·cases h
  ·cases h
def Bb{s:Nat->D}{m:G6}{k:Option Nat}{a b:Nat}:C9 [.cell k a,.t b] s m=(dK m k (s a)).map λd=> .tup [d,s b]:=by
 simp only[C9,Ia,RV.of];cases dK m k (s a)<;>rfl
def I_:(true !=false)=true:=rfl
def aEc:(false !=false)=false:=rfl
def Oh(nl:Bool)(xs:List D):Prop:=xs=Ar (Br xs)∧xs.length<=1000000∧(nl=true->xs=[])
def Mr{nl:Bool}{l:List Rl}(hl:l.length<=1000000)(g:nl=true->l=[]):Oh nl (Ar l):=⟨by rw[A2],by rw[A_];exact hl,λh=>by rw[g h];rfl⟩
def Li{nl:Bool}{xs:List D}(h:Oh nl xs):∃l:List Rl,xs=Ar l∧l.length<=1000000∧(nl=true->l=[])∧Br xs=l:=by
 refine⟨Br xs,h.1,?_,λg=>?_,rfl⟩
 ·have:=h.2.1;rw[h.1,A_]at this;exact this
 ·rw[h.2.2 g];rfl
open Classical in
def aKu:List D->Option D
 |[.slice nl _ xs]=>if Oh nl xs then some (.slice nl [] xs)else none
 |_=>none
open Classical in
def aKt{nl:Bool}{t:Id}{l:List Rl}(hl:l.length<=1000000)(g:nl=true->l=[]):aKu [.slice nl t (Ar l)]=some (.slice nl [] (Ar l)):=by
 show(if _ then _ else _)=_;rw[if_pos (Mr hl g)]
def aTZ:Kq aKu 198:=by
 refine AM (S:=λ_=>none) A6 (Ai func198:Fn Qg 198 8 aNl [.t 2]) (λds r h=>?_) (λds r h=>?_)
 ·unfold aKu at h;split at h
  ·simp
  ·cases h
 ·unfold aKu at h;split at h
  ·rename_i nl t xs;split at h
   ·rename_i w;obtain⟨l,rfl,hl,g,e⟩:=Li w;simp only[Qb]at h;subst h;have n1:(Ar l).length*25<=140737488355328:=by rw[A_];omega
    unfold aNl;cases nl with
    |true=>
     have:=g rfl;subst this;simp only[↓C2,G_,simprocAttr,I_,IF];rfl
    |false=>simp only[↓C2,Hf,simprocAttr,Ah,false_and,aEc,n1,Rz,Oq,Tg,false_or,QU,ne_eq,QQ,Zd,IF]
   ·cases h
  ·cases h
open Classical in
def F94:List D->Option D
 |[.agg [.str n,.str p,.slice nl _ xs]]=>if Oh nl xs then some (.agg [.str n,.str p,.slice nl [] xs])else none
 |_=>none
open Classical in
def aFZ{n p:Bs}{nl:Bool}{t:Id}{l:List Rl}(hl:l.length<=1000000)(g:nl=true->l=[]):F94 [.agg [.str n,.str p,.slice nl t (Ar l)]]=some (.agg [.str n,.str p,.slice nl [] (Ar l)]):=by
 show(if _ then _ else _)=_;rw[if_pos (Mr hl g)]
def aTq:Kq F94 134:=by
 obtain⟨S,s,hl⟩:=Bp (Aa aTZ Ad);have b:=hl 198 _ rfl;clear hl;refine AM (S:=S) s (Ai func134:Fn Qg 134 8 aV2 [.cell (some 3) 2]) (λds r h=>?_) (λds r h=>?_)
 ·unfold F94 at h;split at h
  ·simp
  ·cases h
 ·unfold F94 at h;split at h
  ·rename_i n p nl t xs;split at h
   ·rename_i w;obtain⟨l,rfl,hl,g,e⟩:=Li w;simp only[Qb]at h;subst h;have a:=aKt (t:=[]) hl g;unfold aV2;simp only[↓C2,Hf,simprocAttr,Ah,Au,Av,Qd,Qh,Ql,Qk,Qn,and_false,Qu,Bu,AW,Ab b,a]
   ·cases h
  ·cases h
def aAt(k:Tk):Prop:=k.2.2.2.length<=1000000∧(k.2.2.1=true->k.2.2.2=[])
open Classical in
def F35:List D->Option D
 |[.agg [.slice _ _ xs],.str s]=>if Fu xs∧∀k∈DA xs,aAt k then some (.tup (if A0 (DA xs) s=true then [PK (Bo (DA xs) (Ir (DA xs) s)),.bool true]else [.agg [.str [],.str [],.slice true [] []],.bool false]))else none
 |_=>none
def aTv:Kq F35 81:=by
 obtain⟨S,hS,hl⟩:=Bp (Aa aBi (Aa aTq Ad));have y:=hl 40 _ rfl;have a:=hl 134 _ rfl;clear hl;refine AM (S:=S) hS (Ai func81:Fn Qg 81 23 aWm [.cell (some 3) 4,.t 5]) (λds r h=>?_) (λds r h=>?_)
 ·unfold F35 at h;split at h
  ·simp
  ·cases h
 ·unfold F35 at h;split at h
  ·rename_i nl t xs s;split at h
   ·rename_i w;obtain⟨w,v⟩:=w;obtain⟨l,rfl,hl,e⟩:=EV w;rw[e]at v h;simp only[Qb]at h;subst h;have b:=Oa (nl:=nl) (t:=[]) (s:=s) hl;have z:=oA l;unfold aWm;cases hf:A0 l s with
    |false=>simp only[↓C2,Hf,simprocAttr,Ah,Au,Av,Qd,Qh,Ql,Qk,Qn,and_false,Qu,AW,Bb,Cn,Ab y,b,hf]
    |true=>
     have hi:Ir l s<l.length:=by
      grind [A0]
     rw[hf]at b;generalize Ir l s=i at b hi;have d:(0:Int)<=(i:Int):=O
     have x:=Ld (l:=l) (j:=i) hi;have g:Bo l i∈l:=by simp[Bo,Qc hi]
     have u:=v _ g;generalize Bo l i=k at x u;obtain⟨n,q,o,rs⟩:=k;replace x:(AL l)[i]?=some (.agg [.str n,.str q,.slice o [] (Ar rs)]):=x;have f:=aFZ (n:=n) (p:=q) (t:=[]) u.1 u.2;simp only[↓C2,Hf,simprocAttr,Ah,Au,Av,Qd,Qh,Qt,Qy,Ql,Qk,Qn,and_false,Qu,AW,Bb,Ab y,b,Ab a,f,d,x,Qi,PK]
   ·cases h
  ·cases h
def aIx:=y1 f190 3 [] []
def aIw:=y1 f190 11 [] []
def aWt:=y0 f190 [] [(3,aIx),(11,aIw)]
def aLP:Fn Qg 190 36 aWt [.t 2]:=Ai func190
abbrev sz3:D->Bool:=iH 3
def OH:List D->Option D
 |[.slice _ _ L]=>match Fh L with
  |some ys=>if L.length<=1000∧0<ys.length∧ys.length<=100000∧ys.all sz3=true then some (.slice false [] ys)else none
  |none=>none
 |_=>none
set_option maxRecDepth 20000 in
def WC(w:World)(k:Nat)(t:0<k)(o:k<=1000000):
  Calls Qg 306 #[.slice none 0 0,.int .i64 (k:Int)] w λe s=>e= .returned (.slice (some ⟨w.heap.size,0,none⟩) 0 (grownCap w k 0 107))∧s=w.drew.alloc (.cells (Builtin.zeroCells #[.string .empty,.string .empty,.slice none 0 0] k++Builtin.zeroCells #[.string .empty,.string .empty,.slice none 0 0] (grownCap w k 0 107-k)) 107):=by
 have z:=Lib.run_append_nil_zeros (P:=Qg) w 29 3 29 107 t107 (.agg #[.string .empty,.string .empty,.slice none 0 0]) .i64 .i64 underlying29 underlying3 Z Z k t V O (by show k*56<=_;omega)
 go_enter func306,ntmps306
 go_wp2_with (first|(at_builtin;refine Lib.wpList_append_run _ rfl _ _ _ _ rfl _ _ rfl rfl _ _ z ?_))
 all_goals go_ret
 all_goals exact Y5
def aTB:(DS 107).ok Qg 306:=by
 refine ML (sz:=3) ⟨_,func306,Z,Z⟩ V ⟨t107,(.agg #[.string .empty,.string .empty,.slice none 0 0]),Z,Z,Z,Z⟩ (λw k z o=>?_);refine(WC w k z o).mono ?_;rintro e t ⟨rfl,rfl⟩;refine⟨_,_,grownCap_le_maxLen w k 0 107 Xp,?_,rfl,rfl⟩;have u:=grownCap_ge w k 0 107;simp only[Zx,size_zeroCells];simp;omega
def TV{ds:List D}{r:D}(h:OH ds=some r):∃nl t L ys,ds=[.slice nl t L]∧Fh L=some ys∧L.length<=1000∧0<ys.length∧ys.length<=100000∧ys.all (iH 3)=true∧r= .slice false [] ys:=by
 unfold OH at h;split at h
 ·grind
 ·cases h
def aTQ(a:(DS 107).ok Qg 306):Kq OH 253:=rE (pt:=9) (bytes:=56) (Ai func253:Fn Qg 253 36 aWq [.t 2]) O a λ_ _ h=>TV h
set_option maxRecDepth 20000 in
def WD(w:World)(k:Nat)(t:0<k)(o:k<=1000000):
  Calls Qg 250 #[.slice none 0 0,.int .i64 (k:Int)] w λe s=>e= .returned (.slice (some ⟨w.heap.size,0,none⟩) 0 (grownCap w k 0 68))∧s=w.drew.alloc (.cells (Builtin.zeroCells #[.string .empty,.int .i64 0,.bool false] k++Builtin.zeroCells #[.string .empty,.int .i64 0,.bool false] (grownCap w k 0 68-k)) 68):=by
 have z:=Lib.run_append_nil_zeros (P:=Qg) w 26 3 26 68 t68 (.agg #[.string .empty,.int .i64 0,.bool false]) .i64 .i64 underlying26 underlying3 Z Z k t V O (by show k*32<=_;omega)
 go_enter func250,ntmps250
 go_wp2_with (first|(at_builtin;refine Lib.wpList_append_run _ rfl _ _ _ _ rfl _ _ rfl rfl _ _ z ?_))
 all_goals go_ret
 all_goals exact Y5
def aK4:(DS 68).ok Qg 250:=by
 refine ML (sz:=3) ⟨_,func250,Z,Z⟩ V ⟨t68,(.agg #[.string .empty,.int .i64 0,.bool false]),Z,Z,Z,Z⟩ (λw k z o=>?_);refine(WD w k z o).mono ?_;rintro e t ⟨rfl,rfl⟩;refine⟨_,_,grownCap_le_maxLen w k 0 68 Xp,?_,rfl,rfl⟩;have u:=grownCap_ge w k 0 68;simp only[Zx,size_zeroCells];simp;omega
def aUi(a:(DS 68).ok Qg 250):Kq OH 190:=rE (pt:=9) (bytes:=32) aLP O a λ_ _ h=>TV h
def CJ:Tk:=([114,111,111,116],[],false,[([],63)])
def aKK:List D->Option D
 |[]=>some (PK CJ)
 |_=>none
def aUf:Kq aKK 133:=by
 refine AM (S:=λ_=>none) A6 (Ai func133:Fn Qg 133 4 aNX [.cell (some 3) 0]) (λds r h=>?_) (λds r h=>?_)
 ·grind [aKK]
 ·unfold aKK at h;split at h
  ·simp only[Qb]at h;subst h;unfold aNX;simp only[↓C2,Hf,simprocAttr,Ah,Au,Av,Qd,Qh,Qt,Qy,Ql,QA,QD,Qk,Qn,and_false,Qu,Bu,AW,Cn,Fz,QU,QQ,Zd,PK,CJ,Ar,rlD,Q0,QQ]
  ·cases h
def F48:List D->Option D
 |[]=>some (.agg [.slice false [] (AL [CJ])])
 |_=>none
def aTr:Kq F48 80:=by
 obtain⟨S,g,hl⟩:=Bp (Aa aUf Ad);have a:=hl 133 _ rfl;clear hl;refine AM (S:=S) g (Ai func80:Fn Qg 80 4 aWf [.cell (some 1) 0]) (λds r h=>?_) (λds r h=>?_)
 ·grind [F48]
 ·unfold F48 at h;split at h
  ·simp only[Qb]at h;subst h;have u:aKK []=some (.agg [.str [114,111,111,116],.str [],.slice false [] [.agg [.str [],.int .u8 63]]]):=rfl;unfold aWf;simp only[↓C2,Hf,simprocAttr,Ah,Au,Av,Qh,Qy,Ql,QA,QD,Qk,Qn,Qu,Bu,AW,Cn,Fz,QU,QQ,Zd,Ab a,u,AL,PK,CJ,Ar,rlD,Q0,QQ]
  ·cases h
def Fq(l:List Tk)(k:Tk):List Tk:=l.take (Ir l k.1)++k::l.drop (Ir l k.1)
open Classical in
def aKJ:List D->Option D
 |[.agg [.slice _ _ xs],.agg [.str n,.str p,.slice nl _ ys]]=>if Fu xs∧xs.length<=90000∧Oh nl ys then some (.agg [.slice false [] (AL (Fq (DA xs) (n,p,nl,Br ys)))])else none
 |_=>none
open Classical in
def aKI{nl0 nl:Bool}{t0 t:Id}{l:List Tk}{n p:Bs}{rs:List Rl}(hl:l.length<=90000)(i:rs.length<=1000000)(g:nl=true->rs=[]):
  aKJ [.agg [.slice nl0 t0 (AL l)],.agg [.str n,.str p,.slice nl t (Ar rs)]]=some (.agg [.slice false [] (AL (Fq l (n,p,nl,rs)))]):=by
 have h:Fu (AL l)∧(AL l).length<=90000∧Oh nl (Ar rs):=⟨E4 O,by rw[B9];exact hl,Mr i g⟩;show(if _ then _ else _)=_;rw[if_pos h,BN,A2]
def aUd:Kq aKJ 195:=by
 obtain⟨S,hS,hl⟩:=Bp (Aa aBi (Aa aTq (Aa (aTQ aTB) Ad)));have da:=hl 40 _ rfl;have a:=hl 134 _ rfl;have b:=hl 253 _ rfl;clear hl;refine AM (S:=S) hS (Ai func195:Fn Qg 195 28 aNU [.cell (some 1) 4]) (λds r h=>?_) (λds r h=>?_)
 ·unfold aKJ at h;split at h
  ·simp
  ·cases h
 ·unfold aKJ at h;split at h
  ·rename_i nl0 t0 xs n p nl t ys;split at h
   ·rename_i w;obtain⟨w,h9,j⟩:=w;obtain⟨l,rfl,hl,e⟩:=EV w;obtain⟨rs,rfl,o,m,v⟩:=Li j;rw[e,v]at h;rw[B9]at h9;simp only[Qb]at h;subst h;have fa:=Oa (nl:=nl0) (t:=[]) (s:=n) hl;have f:=aFZ (n:=n) (p:=p) (t:=[]) o m;have d:Ir l n<=l.length:=VW l n _ _ _ O;unfold Fq;generalize Ir l n=i at fa d;generalize A0 l n=fd at fa;have ua:(0:Int)<=(i:Int):=by omega
    have g:(i:Int)<=(l.length:Int):=O
    have u:l.length<=l.length:=Qz _;have z:(AL l).take i=AL (l.take i):=(ZJ ..).symm;have k:((AL l).drop i).take (l.length-i)=AL (l.drop i):=by
     rw[Q9 (by rw[ZA,B9];omega)];exact(List.map_drop ..).symm
    have c:OH [.slice false [] [.slice nl0 [] (AL (l.take i)),.slice false [] [.agg [.str n,.str p,.slice nl [] (Ar rs)]],.slice nl0 [] (AL (l.drop i))]]=some (.slice false [] (AL (l.take i++(n,p,nl,rs)::l.drop i))):=by
     have e1:Fh [.slice nl0 [] (AL (l.take i)),.slice false [] [.agg [.str n,.str p,.slice nl [] (Ar rs)]],.slice nl0 [] (AL (l.drop i))]=some (AL (l.take i++(n,p,nl,rs)::l.drop i)):=by
      simp[Fh,AL,PK]
     simp only[OH,e1];rw[if_pos];refine⟨U,?_,?_,?_⟩
     ·grind [B9]
     ·grind [B9]
     ·rw[Qs];intro x q;obtain⟨y,_,rfl⟩:=Q_.1 q;rfl
    unfold aNU;simp only[↓C2,Hf,simprocAttr,Ah,Au,Av,Qd,Qh,Qy,Ql,QA,QD,Qk,Qn,and_false,Qu,Cn,Fz,uA,QU,QQ,Zd,Ab da,fa,Ab a,f,Ab b,c,B9,ua,g,z,k,Qi,Qz];refine AV ?_;simp only[↓C2,G_,simprocAttr,Ah,Au,Av,QZ,Qm,Qq,Qv,Qx,and_self,Qh,QA,Qk,Qu,Bu,AW,QQ,Zd,z,k,Qz]
   ·cases h
  ·cases h
def cX{S:GZ}{ns:Id}{a b l:List Rl}{nl na nb:Bool}{t ta tb:Id}{Q:Ex->St->Prop}{e:Bool}{u:D}{i:Int}(z:S 41=some (Ac F95))(c:S 307=some (Ac aF9))
  (la:a.length<=1000000) (lb:b.length<=1000000) (pb:Cv b) (v:Gv a) (cb:Gv b) (hb:l.length<=1000000) (ab:Cv l)
  (pa:∀y,e=false->y.s 4= .bool false->Q .ret y) (ga:∀y,e=true->y.s 0= .slice na ta (Ar a)->y.s 1= .slice nb tb (Ar b)->y.s 19=u->y.s 20= .int .i64 i->Q (.exit 2) y):
  ∀(f j:Nat) y g,l.length=j+f->EU a b l f j=e->y.s 0= .slice na ta (Ar a)->y.s 1= .slice nb tb (Ar b)->y.s 19=u->y.s 20= .int .i64 i->y.s 23= .slice nl t (Ar l)->y.s 24= .int .i64 (l.length:Int)->y.s 25= .int .i64 (j:Int)->Ba S ns Pr Q y g:=by
 intro f;induction f with
 |zero=>
  intro j y g hf he w h1 m d o n ia;refine Af Pr.eq_1 ?_;have:¬((j:Int)<l.length):=O
  simp only[↓C2,G8,Hj,reduceIte,Qf,n,ia,this];exact ga _ he.symm w h1 m d
 |succ f ih=>
  intro j y g hf he w h1 m d o n ia;refine Af Pr.eq_1 ?_;unfold EU at he;have hj:j<l.length:=O
  have x:((j:Int)<l.length):=O
  have oa:=nJ (j:=j);have hw:=wJ (j:=j) O;have ja:(Ar l)[j]?=some (.agg [.str (CZ l j).1,.int .u8 (CZ l j).2]):=O2 hj;have hq:=bW ab hj;unfold jU at he;generalize CZ l j=r at ja hq he;obtain⟨q,k⟩:=r;simp only at ja hq he;have p:=nN (nl:=na) (t:=[]) (s:=q) la;have ba:=rF (s:=q) v;have h:=aKo (nl:=nb) (t:=[]) (s:=q) lb cb pb hq ba.1 ba.2;unfold Nj at h;generalize eA (Db b q).toNat (Db a q).toNat=hh at he h;obtain⟨ka,fa,da⟩:=y;simp only at w h1 m d o n ia;cases hh with
  |true=>
   rw[if_pos rfl]at he;simp only[↓C2,Hf,reduceIte,Qe,Qf,w,h1,o,n,ia,x,oa,Qi,ja,Ab z,p,Ab c,h,Ah,Au,Av,QK,QY,Qd,Qh,Qt,Qy,Ql];refine AV ?_;simp only[↓C2,G8,H_,reduceIte,Qe,Qf,ia,hw];exact ih (j+1) _ _ O he w h1 m d o n rfl
  |false=>
   rw[if_neg U]at he;simp only[↓C2,Hf,reduceIte,Qe,Qf,w,h1,o,n,ia,x,oa,Qi,ja,Ab z,p,Ab c,h,Ah,Au,Av,QK,QY,Qd,Qh,Qt,Qy,Ql];refine AV ?_;simp only[↓C2,G8,H_,reduceIte,Qe,Qf];exact pa _ he.symm rfl
def aUe:Kq aKH 254:=by
 obtain⟨S,p,hl⟩:=Bp (Aa cD (Aa aPv (Aa aTR Ad)));have q:=hl 168 _ rfl;have z:=hl 41 _ rfl;have c:=hl 307 _ rfl;clear hl;refine AM (S:=S) p (Ai func254:Fn Qg 254 40 aNV [.t 4]) (λds r h=>?_) (λds r h=>?_)
 ·grind [iF]
 ·obtain⟨na,ta,a,nb,tb,b,rfl,la,lb,pa,pb,v,cb,rfl⟩:=iF h;have ea:=Wg (nl:=na) (t:=[]) la pa;have eb:=Wg (nl:=nb) (t:=[]) lb pb;have j:=NE a;have i:=NE b;have k:=UN a;have n:=UN b;unfold aNV GT;generalize Cg a=xa at *;generalize Cg b=xb at *;by_cases f:xa=0
  ·by_cases g:xb=0
   ·subst f g;have z2:((2:Nat):Int)=2:=rfl;have w1:IntKind.i64.wrap ((0:Int)+1)=1:=Hu O O;have w2:IntKind.i64.wrap ((1:Int)+1)=2:=Hu O O;rw[Zs];have x:a.all (jU a b)=EU a b a a.length 0:=by rw[IW _ _ _ _ _ O];rfl
    have hb:b.all (jU a b)=EU a b b b.length 0:=by rw[IW _ _ _ _ _ O];rfl
    rw[x,hb];simp only[↓C2,G_,reduceIte,Qe,Qf,Ab q,ea,eb,Cn,Fz,QY,Qm,Qq,Qv,and_self,Qt,Qy,QA,QD];refine Af Pq.eq_1 ?_;simp only[↓C2,G8,Hj,reduceIte,Qe,Qf,A_,z2,ZO,Int.toNat_zero,ZC,Qx,and_self];refine cX (a:=a) (b:=b) (l:=a) (e:=EU a b a a.length 0) z c la lb pb v cb la pa (λy u w=>?_) (λy s h0 u m d=>?_) a.length 0 _ _ O rfl rfl rfl rfl rfl rfl rfl rfl
    ·simp only[↓C2,G_,u,w,Za,ZF]
    ·simp only[↓C2,G_,reduceIte,Qe,Qf,d,s,w1];refine Af Pq.eq_1 ?_;simp only[↓C2,G8,Hj,reduceIte,Qe,Qf,m,d,A_,z2,ZO,Int.toNat_one,Int.reduceLE,Qx,Qd,and_self];refine cX (a:=a) (b:=b) (l:=b) (e:=EU a b b b.length 0) z c la lb pb v cb lb pb (λy u w=>?_) (λy o h0 u m d=>?_) b.length 0 _ _ O rfl h0 u m rfl rfl rfl rfl
     ·simp only[↓C2,G_,u,w,s,ZF]
     ·simp only[↓C2,G_,reduceIte,Qe,Qf,d,s,o,w2];refine Af Pq.eq_1 ?_;simp only[↓C2,G_,reduceIte,Qe,Qf,d,s,o,Zn]
   ·simp only[↓C2,G_,reduceIte,Qe,Qf,Ab q,ea,eb,g,f]
    try simp
  ·simp only[↓C2,G_,reduceIte,Qe,Qf,Ab q,ea,f]
   try simp
def IH(l:List Tk)(k:Tk):Option (List Tk)×Int:=
 if Mk k.1 k.2.1 k.2.2.2≠0 then(none,Mk k.1 k.2.1 k.2.2.2)else if k.2.1=[]then(none,2)else if A0 l k.1=true then(none,20)else if A0 l k.2.1=false then(none,6)
 else if GT k.2.2.2 (Bo l (Ir l k.2.1)).2.2.2=false then(none,13)else(some (Fq l k),0)
def WT(nl:Bool)(l:List Tk)(o:Option (List Tk)):D:=match o with
 |none=> .agg [.slice nl [] (AL l)]
 |some t=> .agg [.slice false [] (AL t)]
def Mx(l:List Rl):Prop:=l.length<=1000000∧Cv l∧Gv l
open Classical in
def F50:List D->Option D
 |[.agg [.slice nl0 _ xs],.agg [.str n,.str p,.slice nl _ ys]]=>if(Fu xs∧xs.length<=90000∧∀k∈DA xs,Mx k.2.2.2)∧Oh nl ys∧Mx (Br ys)∧n.length<=1000000∧p.length<=1000000
   then some (.tup [WT nl0 (DA xs) (IH (DA xs) (n,p,nl,Br ys)).1,.int .i64 (IH (DA xs) (n,p,nl,Br ys)).2])else none
 |_=>none
def aX1:Kq F50 196:=by
 obtain⟨S,hS,hl⟩:=Bp (Aa aK9 (Aa aBi (Aa aUe (Aa aUd Ad))));have a:=hl 135 _ rfl;have da:=hl 40 _ rfl;have f:=hl 254 _ rfl;have o:=hl 195 _ rfl;clear hl;refine AM (S:=S) hS (Ai func196:Fn Qg 196 54 aWe [.cell (some 1) 4,.t 5]) (λds r h=>?_) (λds r h=>?_)
 ·unfold F50 at h;split at h
  ·simp
  ·cases h
 ·unfold F50 at h;split at h
  ·rename_i nl0 t0 xs n p nl t ys;split at h
   ·rename_i w;obtain⟨⟨w,h9,hk⟩,hr,g,hn,hp⟩:=w;obtain⟨l,rfl,hl,e⟩:=EV w;obtain⟨rs,rfl,ga,m,e2⟩:=Li hr;rw[e,e2]at h;rw[e]at hk;rw[e2]at g;rw[B9]at h9;simp only[Qb]at h;subst h;have y:=Wn (n:=n) (p:=p) (nl:=nl) (t:=[]) ga g.2.1 hn hp;have c:=Oa (nl:=nl0) (t:=[]) (s:=n) hl;have b:=Oa (nl:=nl0) (t:=[]) (s:=p) hl;have q:=aKI (nl0:=nl0) (t0:=[]) (n:=n) (p:=p) (t:=[]) h9 ga m;unfold aWe IH;simp only;generalize Mk n p rs=e at *;by_cases he:e=0
    ·subst he;by_cases d:p=[]
     ·subst d;simp only[↓C2,Hf,simprocAttr,Ah,Au,Av,Qd,Qh,Ql,Qk,Qn,and_false,Qu,AW,Bb,Ab a,y,ne_eq];simp[WT];rfl
     ·cases h1:A0 l n with
      |true=>
       rw[h1]at c;simp only[↓C2,Hf,simprocAttr,Ah,Au,Av,Qd,Qh,Ql,Qk,Qn,and_false,Qu,AW,Bb,Ab a,y,Ab da,c,ne_eq,d];simp[WT];rfl
      |false=>
       rw[h1]at c;cases h2:A0 l p with
       |false=>
        rw[h2]at b;simp only[↓C2,Hf,simprocAttr,Ah,Au,Av,Qd,Qh,Ql,Qk,Qn,and_false,Qu,AW,Bb,Ab a,y,Ab da,c,b,ne_eq,d];simp[WT];rfl
       |true=>
        have hi:Ir l p<l.length:=by
         grind [A0]
        rw[h2]at b;generalize Ir l p=i at b hi;have ua:(0:Int)<=(i:Int):=O
        have ja:=Ld (l:=l) (j:=i) hi;have hm:Bo l i∈l:=by simp[Bo,Qc hi]
        have x:=hk _ hm;generalize Bo l i=k at ja x;obtain⟨n2,z,ma,u⟩:=k;replace ja:(AL l)[i]?=some (.agg [.str n2,.str z,.slice ma [] (Ar u)]):=ja;have v:=aKG (na:=nl) (nb:=ma) (ta:=[]) (tb:=[]) ga x.1 g.2.1 x.2.1 g.2.2 x.2.2;simp only at v;cases h3:GT rs u with
        |false=>
         rw[h3]at v;simp only[↓C2,Hf,simprocAttr,Ah,Au,Av,Qd,Qh,QA,QD,QN,Qk,Qn,and_false,Qu,Ab a,y,Ab da,c,b,ne_eq,d,ua,ja,Qi,Ab f,v];refine AV ?_;simp only[↓C2,Hf,simprocAttr,Ah,Au,Av,Qh,Ql,Qk,Qn,Qu,AW,Bb,d];simp[WT];rfl
        |true=>
         rw[h3]at v;simp only[↓C2,Hf,simprocAttr,Ah,Au,Av,Qd,Qh,QA,QD,QN,Qk,Qn,and_false,Qu,Ab a,y,Ab da,c,b,ne_eq,d,ua,ja,Qi,Ab f,v];refine AV ?_;simp only[↓C2,Hf,simprocAttr,Ah,Au,Av,Qd,Qh,Ql,Qk,Qn,and_false,Qu,AW,Bb,Ab o,q,d];simp[WT];rfl
    ·simp only[↓C2,Hf,simprocAttr,Ah,Au,Av,Qd,Qh,Ql,Qk,Qn,and_false,Qu,AW,Bb,Ab a,y,ne_eq,he];simp[WT];rfl
   ·cases h
  ·cases h
def aHU{S:GZ}{l:List Tk}{nl0:Bool}{t0:Id}{Q:Ex->St->Prop}(hb:l.length<=1000000)
  (ga:∀y nl t,nl=decide (l.length=0)->y.s 3= .slice nl t (l.map λk=> .str k.1)->Q (.exit 0) y):
  ∀(f j:Nat) nl t y g,l.length=j+f->nl=decide (j=0)->Gw y.m y.c 9 nl t->y.s 3= .slice nl t ((l.take j).map λk=> .str k.1)->y.s 7= .slice nl0 t0 (AL l)->y.s 8= .int .i64 (l.length:Int)->y.s 9= .int .i64 (j:Int)->Ba S [] Po Q y g:=by
 intro f;induction f with
 |zero=>
  intro j nl t y g e o hG i h7 h8 h9;refine Af Po.eq_1 ?_;have:¬((j:Int)<l.length):=O
  simp only[↓C2,G8,Hj,reduceIte,Qf,h8,h9,this];refine ga _ nl t (by rw[o,show j=l.length by omega]) ?_;rw[show j=l.length by omega,Zp]at i;exact i
 |succ f ih=>
  intro j nl t y g e o hG i h7 h8 h9;refine Af Po.eq_1 ?_;have d:j<l.length:=O
  have u:((j:Int)<l.length):=O
  have oa:=nJ (j:=j);have hw:=wJ (j:=j) O;have x:=Ld (l:=l) (j:=j) d;have z:(l.take (j+1)).map (λk:Tk=>D.str k.1)=(l.take j).map (λk:Tk=>D.str k.1)++[.str (Bo l j).1]:=by
   rw[Zb d,List.map_append];simp[Bo,Qc d]
  have va:((l.take j).map (λk:Tk=>D.str k.1)).length=j:=Xb
  have a:nl=true->(l.take j).map (λk:Tk=>D.str k.1)=[]:=by
   simp_all
  generalize (l.take j).map (λk:Tk=>D.str k.1)=v at i z va a;generalize Bo l j=k at x z;obtain⟨n,p,r,rs⟩:=k;replace x:(AL l)[j]?=some (.agg [.str n,.str p,.slice r [] (Ar rs)]):=x;obtain⟨w,b,q⟩:=y;simp only at i h7 h8 h9 hG z;simp only[↓C2,Hf,simprocAttr,i,h7,h8,h9,u,oa,Qi,x,Ah,Au,Av,Qd,Qh,Qt,Qy,Ql,and_false];refine As.intro ⟨O,rfl,?_⟩ ?_
  ·first
    |exact(hG.put.put.more O).grow O
    |exact(Gw.put (Gw.put hG O) O).grow O
  rw[B0 a,←z];simp only[↓C2,G_,simprocAttr,h9,hw];refine ih (j+1) false _ _ _ O U ?_ rfl h7 h8 rfl;exact Gw.new Xa
open Classical in
def nO:List D->Option D
 |[.agg [.slice _ _ xs]]=>if Fu xs then some (.slice (decide ((DA xs).length=0)) [] ((DA xs).map λk=> .str k.1))else none
 |_=>none
def aUc:Kq nO 19:=by
 refine AM (S:=λ_=>none) A6 (Ai func19:Fn Qg 19 20 aNN [.t 2]) (λds r h=>?_) (λds r h=>?_)
 ·unfold nO at h;split at h
  ·simp
  ·cases h
 ·unfold nO at h;split at h
  ·rename_i nl t xs;split at h
   ·rename_i w;obtain⟨l,rfl,hl,e⟩:=EV w;rw[e]at h;simp only[Qb]at h;subst h;unfold aNN;simp only[↓C2,G8,H_,simprocAttr,B9,Ah,QV,QZ,Qm,Qq,Qv,Qx,and_self];refine aHU (l:=l) (nl0:=nl) (t0:=t) hl (λy nl' z u f=>?_) l.length 0 true [] _ _ O U (.inl rfl) rfl rfl rfl rfl;simp only[↓C2,G_,simprocAttr,f];rw[u]
    first|done|rfl|exact⟨rfl,rfl⟩
   ·cases h
  ·cases h
def aNC:=y0 f29 [] []
def aMK:=y0 f68 [] []
def aNu:=y0 f265 [] []
def aMb:=y0 f241 [] []
def aMH:=y0 f170 [] []
def zJ:List D->Option D
 |[.int .i64 n,.int .i64 lo,.int .i64 hi]=>some (.bool (decide (lo<=n∧n<=hi)))
 |_=>none
def aK1:Kq zJ 170:=by
 refine AM (S:=λ_=>none) A6 (Ai func170:Fn Qg 170 15 aMH [.t 6]) (λds r h=>?_) (λds r h=>?_)
 ·unfold zJ at h;split at h
  ·simp
  ·cases h
 ·unfold zJ at h;split at h
  ·rename_i n lo hi;simp only[Qb]at h;subst h;unfold aMH;simp only[↓C2,G8,simprocAttr]
   repeat' (first|(refine aF (λh=>?_) (λh=>?_)<;>try (exfalso;omega))|(simp only[↓C2,G_,simprocAttr,h,and_self,false_and]))
   all_goals (simp_all<;>omega)
  ·cases h
def zC:D->D->Option D
 | .junk,.int .i64 x=>some (.bool (!decide (1<=x∧x<=999)))
 |_,_=>none
def aQW:(IY zC).ok Qg 241:=by
 obtain⟨S,g,hl⟩:=Bp (Aa aK1 Ad);have f:=hl 170 _ rfl;clear hl;refine N0 (S:=S) g (Ai func241:Fn Qg 241 6 aMb [.t 2]) (λx caps m fr c d s z v hl=>⟨O,?_⟩);unfold zC at z;split at z
 ·rename_i n;simp only[Qb]at z;subst z;have a:∀n lo hi,zJ [.int .i64 n,.int .i64 lo,.int .i64 hi]=some (.bool (decide (lo<=n∧n<=hi))):=λ_ _ _=>rfl
  unfold aMb;simp only[↓C2,G_,simprocAttr,Ab f,a]
  try exact λi o y h=>h
 ·cases z
def aQB:(FQ 241 none zC).ok Qg 293:=NP O aVT rfl aQW
def aWv:(iI 241 none zC).ok Qg 240:=qY O aVU aQB
def uY(l:List Mt):aD (AA l) 3=3:=Xy
def Tv(nl:Bool)(xs:List D):Prop:=xs=AA (DD xs)∧xs.length<=1000000∧(nl=true->xs=[])
def P5{nl:Bool}{l:List Mt}(hl:l.length<=1000000)(g:nl=true->l=[]):Tv nl (AA l):=⟨by rw[BO],by rw[AU];exact hl,λh=>by rw[g h];rfl⟩
def NK{nl:Bool}{xs:List D}(h:Tv nl xs):∃l:List Mt,xs=AA l∧l.length<=1000000∧(nl=true->l=[])∧DD xs=l:=by
 refine⟨DD xs,h.1,?_,λg=>?_,rfl⟩
 ·have:=h.2.1;rw[h.1,AU]at this;exact this
 ·rw[h.2.2 g];rfl
open Classical in
def aKl:List D->Option D
 |[.slice nl _ xs]=>if Tv nl xs then some (.slice nl [] xs)else none
 |_=>none
open Classical in
def aKk{nl:Bool}{t:Id}{l:List Mt}(hl:l.length<=1000000)(g:nl=true->l=[]):aKl [.slice nl t (AA l)]=some (.slice nl [] (AA l)):=by
 show(if _ then _ else _)=_;rw[if_pos (P5 hl g)]
def aTO:Kq aKl 68:=by
 refine AM (S:=λ_=>none) A6 (Ai func68:Fn Qg 68 8 aMK [.t 2]) (λds r h=>?_) (λds r h=>?_)
 ·unfold aKl at h;split at h
  ·simp
  ·cases h
 ·unfold aKl at h;split at h
  ·rename_i nl t xs;split at h
   ·rename_i w;obtain⟨l,rfl,hl,g,e⟩:=NK w;simp only[Qb]at h;subst h;have n1:(AA l).length*33<=140737488355328:=by rw[AU];omega
    unfold aMK;cases nl with
    |true=>
     have:=g rfl;subst this;simp only[↓C2,G_,simprocAttr,I_,IF];rfl
    |false=>simp only[↓C2,Hf,simprocAttr,Ah,false_and,aEc,n1,uY,Rz,Oq,false_or,QU,ne_eq,QQ,Zd,IF]
   ·cases h
  ·cases h
open Classical in
def aGh:List D->Option D
 |[.agg [.slice nl _ xs]]=>if Tv nl xs then some (.slice nl [] xs)else none
 |_=>none
def aT9:Kq aGh 29:=by
 obtain⟨S,s,hl⟩:=Bp (Aa aTO Ad);have b:=hl 68 _ rfl;clear hl;refine AM (S:=S) s (Ai func29:Fn Qg 29 6 aNC [.t 2]) (λds r h=>?_) (λds r h=>?_)
 ·unfold aGh at h;split at h
  ·simp
  ·cases h
 ·unfold aGh at h;split at h
  ·rename_i nl t xs;split at h
   ·rename_i w;obtain⟨l,rfl,hl,g,e⟩:=NK w;simp only[Qb]at h;subst h;have a:=aKk (t:=[]) hl g;unfold aNC;simp only[↓C2,Hf,simprocAttr,Ah,Ab b,a]
   ·cases h
  ·cases h
def wB(bs:List Bool):Bm bs<bs.length:=by
 unfold Bm;cases h:bs.findIdx? id with
 |none=>simp only;omega
 |some k=>
  rw[QS]at h;obtain⟨o,_⟩:=h;simp only;omega
def eI(l:List Mt)(p:Bs):Cm l p<l.length:=by
 have:=wB (l.map λm=>decide (m.1=p));rw[Qw]at this;exact this
open Classical in
def aGe:List D->Option D
 |[.agg [.slice _ _ xs],.str p]=>if xs=AA (DD xs)∧xs.length<=1000000 then some (.tup (if Cm (DD xs) p<0 then [MF ([],0,false),.int .i64 14]else [MF (Cw (DD xs) (Cm (DD xs) p).toNat),.int .i64 0]))else none
 |_=>none
def aT4:Kq aGe 265:=by
 obtain⟨S,g,hl⟩:=Bp (Aa aBo Ad);have c:=hl 187 _ rfl;clear hl;refine AM (S:=S) g (Ai func265:Fn Qg 265 18 aNu [.cell (some 3) 4,.t 5]) (λds r h=>?_) (λds r h=>?_)
 ·unfold aGe at h;split at h
  ·simp
  ·cases h
 ·unfold aGe at h;split at h
  ·rename_i nl t xs p;split at h
   ·rename_i w;obtain⟨q,hl⟩:=w;simp only[Qb]at h;subst h;generalize DD xs=l at q;subst q;rw[AU]at hl;have z:=Py (nl:=nl) (t:=[]) (p:=p) hl;have u:=eI l p;unfold aNu;generalize Cm l p=i at z u;by_cases hi:i<0
    ·simp only[↓C2,Hf,simprocAttr,Ah,Au,Av,Qd,Qh,Ql,Qk,Qn,QO,and_false,AW,Bb,Cn,Ab c,z,hi];simp[MF];rfl
    ·obtain⟨j,rfl⟩:=QX (show 0<=i by omega);have d:j<l.length:=by omega
     have m:=nJ (j:=j);have x:(AA l)[j]?=some (.agg [.str (Cw l j).1,.int .i64 (Cw l j).2.1,.bool (Cw l j).2.2]):=ME d;simp only[↓C2,Hf,simprocAttr,Ah,Au,Av,Qd,Qh,Qt,Qy,Ql,Qk,Qn,QO,and_false,AW,Bb,Ab c,z,hi,m,x,Qi];simp[MF];rfl
   ·cases h
  ·cases h
def eG{bs:List Bool}{j:Nat}(h:bs[j]?=some true)(ia:∀i,i<j->bs[i]?=some false):Bm bs=j:=by
 have d:j<bs.length:=(Qo.1 h).1;have:bs.findIdx? id=some j:=by
  rw[QS];refine⟨d,by rw[Qc d]at h;simpa using h,λi hi=>?_⟩;have:=ia i hi;rw[Qc O]at this;simp[Qb]at this;simp[this]
 simp only[Bm,this]
def eH{bs:List Bool}(ia:∀i,i<bs.length->bs[i]?=some false):Bm bs=-1:=by
 have:bs.findIdx? id=none:=Zl.2 λb u=>by
  obtain⟨i,hi,rfl⟩:=QW u;have:=ia i hi;rw[Qc hi]at this;simpa using QE this
 simp only[Bm,this]
def Ct(l:List Mt)(p:Bs):Int:=Bm (l.map λm=>Cu p m.1)
def aN0:=y0 f191 [] []
def qT:=y1 f251 2 [] []
def aNc:=y0 f251 [] [(2,qT)]
def Pd:=y1 f296 4 [] []
def Pc:=y1 f296 1 [] [(4,Pd)]
def aMu:=y0 f296 [] [(1,Pc)]
def aNb:=y0 f252 [] []
def aMt:=y0 f305 [] []
def aWg:=y0 f129 [(6,[(3,1)])] []
def m0t:Mt:=([],0,false)
def kG(a b:Mt):Bool:=decide (C6 a.1 b.1<0)
def aZa(i:Id)(m:G6)(xs:List Mt):Prop:=∀j,j<xs.length->m i (j*3)=some (.str (xs.getD j m0t).1)∧m i (j*3+1)=some (.int .i64 (xs.getD j m0t).2.1)∧m i (j*3+2)=some (.bool (xs.getD j m0t).2.2)
structure N8 (i:Id) (m0 m:G6) (xs:List Mt):Prop where
 row:aZa i m xs
 out:∀i' o,(i'≠i∨xs.length*3<=o)->m i' o=m0 i' o
def N8.put{i:Id}{m0 m:G6}{xs:List Mt}(h:N8 i m0 m xs){j:Nat}(r:j<xs.length){p:Bs}{q:Int}{b:Bool}:N8 i m0 (m.put i (j*3) [.str p,.int .i64 q,.bool b]) (xs.set j (p,q,b)):=by
 refine⟨λk n=>?_,λv o ho=>?_⟩
 ·rw[Zt]at n;by_cases e:k=j
  ·grind [m0t,Ah]
  ·have a:(xs.set j (p,q,b)).getD k m0t=xs.getD k m0t:=by simp[Zy,List.getElem?_set_ne (Ne.symm e)]
   rw[a];have g:∀d,d<3->¬(i=i∧j*3<=k*3+d∧k*3+d<j*3+[D.str p,.int .i64 q,.bool b].length):=by
    intro d t;simp;omega
   obtain⟨a1,s,c⟩:=h.row k n;exact⟨by rw[Ah,if_neg (by have:=g 0 O;rwa [Q8]at this)];exact a1,by rw[Ah,if_neg (g 1 O)];exact s,by rw[Ah,if_neg (g 2 O)];exact c⟩
 ·rw[Zt]at ho;rw[Ah,if_neg (by rintro⟨e,h1,h2⟩;simp at h2;rcases ho with ho|ho;exact ho e;omega)];exact h.out v o ho
def N8.swp{i:Id}{m0 m:G6}{xs:List Mt}(h:N8 i m0 m xs){j:Nat}(d:j+1<xs.length){x y:Mt}(q:xs.getD j m0t=x)(a:xs.getD (j+1) m0t=y):
  N8 i m0 ((m.put i ((j+1)*3) [.str x.1,.int .i64 x.2.1,.bool x.2.2]).put i (j*3) [.str y.1,.int .i64 y.2.1,.bool y.2.2]) (Go.Vd.swp m0t xs j):=by
 unfold Go.Vd.swp;rw[q,a];exact(h.put (j:=j+1) d).put (by rw[Zt];omega)
def h108(a b:Mt):zQ [MF a,MF b]=some (.int .i64 (C6 a.1 b.1)):=rfl
def aBN{S:GZ}{fr i:Id}{n:Nat}{m0:G6}{i8:Nat}{Q:Ex->St->Prop}(a:S 192=some (Ac zQ))(o:n<=1000):
  ∀(j:Nat)(xs:List Mt) v g,xs.length=n->j<n->v.s 0= .row i n->v.s 1= .int .i64 0->v.s 2= .int .i64 (n:Int)->v.s 3= .fn 192 []->v.s 8= .int .i64 (i8:Int)->v.s 9= .int .i64 (j:Int)->N8 i m0 v.m xs->
   (∀p,p.s 0= .row i n->p.s 1= .int .i64 0->p.s 2= .int .i64 (n:Int)->p.s 3= .fn 192 []->p.s 8= .int .i64 (i8:Int)->N8 i m0 p.m (Rt kG m0t xs j)->Q (.exit 2) p)->Ba S fr Pd Q v g:=by
 intro j;induction j with
 |zero=>
  intro xs v g hl e t u f h3 h8 h9 I r;refine Af Pd.eq_1 ?_;have d:¬((0:Int)<((0:Nat):Int)):=O
  simp only[↓C2,G8,Hj,simprocAttr,u,h9,d];refine AV ?_;simp only[↓C2,G8,reduceIte,Qe];exact r _ t u f h3 h8 I
 |succ j ih=>
  intro xs v g hl e t u f h3 h8 h9 I r;refine Af Pd.eq_1 ?_;have d:((0:Int)<((j+1:Nat):Int)):=O
  have w1:IntKind.i64.wrap (((j+1:Nat):Int)-1)=(j:Int):=Xh
  have oa:=nJ (j:=j);have ta:(0:Int)<=((j+1:Nat):Int):=O
  have z:((j:Int)<(n:Int)):=O
  have c:(((j+1:Nat):Int)<(n:Int)):=O
  have bn:(3=1)=False:=U
  obtain⟨a0,a1,a2⟩:=I.row j O;obtain⟨b0,b1,b2⟩:=I.row (j+1) O;obtain⟨x,q⟩:∃x,xs.getD j m0t=x:=⟨_,rfl⟩;obtain⟨y,hy⟩:∃y,xs.getD (j+1) m0t=y:=⟨_,rfl⟩;have ja:=r;unfold Rt at ja;have k:kG (xs.getD (j+1) m0t) (xs.getD j m0t)=decide (C6 (xs.getD (j+1) m0t).1 (xs.getD j m0t).1<0):=rfl;rw[k]at ja;rw[q]at a0 a1 a2 ja;rw[hy]at b0 b1 b2 ja;clear k;have w:=h108 y x;simp only[MF]at w;obtain⟨ka,fa,da⟩:=v;simp only at t u f h3 h8 h9 a0 a1 a2 b0 b1 b2 I;by_cases k:C6 y.1 x.1<0
  ·rw[if_pos XY]at ja;have q1:((j+1)*3<=j*3)=False:=eq_false O;have q2:((j+1)*3<=j*3+1)=False:=eq_false O;have q3:((j+1)*3<=j*3+1+1)=False:=eq_false O;have b:decide (C6 y.1 x.1<0)=true:=by simpa using k
   simp only[↓C2,G_,simprocAttr,t,u,h3,h9,d,oa,ta,z,c,w1,bn,Qi,a0,a1,a2,b0,b1,b2,k,Ab a,w,Au,Av,and_self,Qh];refine AV ?_;simp only[↓C2,G8,H_,simprocAttr,t,h9,oa,ta,z,c,w1,bn,Qi,a0,a1,a2,b0,b1,b2,q1,q2,q3,false_and,and_false,Ah,Au,Av,Qm,Qq,Qv,and_self,Qh,Ql];refine AV ?_;simp only[↓C2,G8,simprocAttr,h9,w1,bn];refine ih _ _ _ (by rw[oC];exact hl) O t u f h3 h8 rfl ?_ ja;exact I.swp O q hy
  ·rw[if_neg XY]at ja;simp only[↓C2,G_,simprocAttr,t,u,h3,h9,d,oa,ta,z,c,w1,bn,Qi,a0,a1,a2,b0,b1,b2,k,Ab a,w,Au,Av,and_self,Qh];refine AV ?_;simp only[↓C2,G8,reduceIte,Qe,bn];exact ja _ t u f h3 h8 I
end Go.Vd
end
