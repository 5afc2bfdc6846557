/- A part of the proof; nothing in it is assumed. -/
import Derived.Test.YtpiplnfjodahpaaGreatDoorMKnowsP1
import Derived.Test.YtpiplnfjodahpaaGreatDoorProg
import Derived.Shelf.Strings.Split
import Init
import Derived.Shelf.Strings.OnBuilder
import Derived.Lib.AppendZeros

set_option linter.unusedSimpArgs false
set_option linter.unusedVariables false
set_option linter.defProp false
set_option maxHeartbeats 4000000
set_option maxRecDepth 100000
open And renaming intro→Qa
open Option.some renaming injEq→Qb,inj→QG
open List renaming getElem?_eq_getElem→Qc,getElem?_cons_zero→Qg,length_cons→Qh,length_nil→Qk,getElem?_eq_some_iff→Qq,mem_of_getElem?→Qr,all_eq_true→Qt,take_succ_cons→Qu,length_map→Qy,take_zero→Qz,drop_zero→QB,map_congr_left→QD,drop_succ_cons→QE,suffix_cons→QI,map_map→QJ,getElem?_take_of_lt→QK,getElem?_cons_succ→QM,getElem?_map→QN,head?_cons→QP,findIdx?_eq_some_iff_getElem→QT,getElem?_append_left→QU,map_nil→QV,getElem_of_mem→QW,mem_map→QZ,nil_append→Q_,map_cons→Q0,mem_cons_of_mem→Q1,getElem?_append_right→Q2,drop_eq_getElem_cons→Q4,mem_cons_self→Q5,length_append→Q6,replicate→Q7,take_of_length_le→Q9,take_succ_eq_append_getElem→Zb,append_assoc→Zc,cons_append→Zd,getElem_mem→Ze,count_eq_zero_of_not_mem→Zf,length_take_le→Zg,all_nil→Zi,findIdx?_eq_none_iff→Zl,mem_cons→Zm,length_eq_zero_iff→Zo,take_length→Zp,suffix_refl→Zq,all_append→Zs,length_set→Zt,getElem?_take→Zw,getD→Zy,length_drop→ZA,map_id→ZB,drop_drop→ZE,all_cons→ZI,map_take→ZJ,getLast?→ZK,any_map→ZN,map→ZP,length→ZQ
open Nat renaming reduceEqDiff→Qd,reduceAdd→Qe,zero_add→Qm,zero_ne_one→Qp,succ_ne_zero→Qv,sub_zero→Qw,zero_le→Qx,le_refl→QA,le_of_ble_eq_true→QH,reduceLT→QL,one_ne_zero→QQ,le_trans→QR,reduceLeDiff→QY,add_zero→Q8,lt_of_lt_of_le→Zj,land→Zr,eq_zero_or_pos→Zu,add_sub_cancel→Zv,le_max_right→Zz
open Go.Proofs.Tryz renaming prog→Qf
open Option renaming bind_some→Qi,map_eq_some_iff→Ql,isSome_some→Qo,bind_eq_some_iff→QC,map_some→QO
open Int renaming toNat_natCast→Qj,eq_ofNat_of_zero_le→QX,cast_ofNat_Int→Zk,lt_irrefl→Zn,le_refl→ZC,reduceLT→ZO
open List.cons renaming injEq→Qn
open Prod.mk renaming injEq→Qs
open Array renaming getElem?_eq_some_iff→QF,getD_eq_getD_getElem?→Zh,size_append→Zx
open Bool renaming false_eq_true→QS,and_eq_true→Q3,false_and→Za,not_false→ZD,and_false→ZF,true_and→ZG,not_true→ZH,false_or→ZL,or_false→ZM
open Prod renaming ext→ZR
open Go.Proofs.Tryz
noncomputable section
namespace Go.Vd
open Go.RowKit
section
variable{S:HD}{s:Nat->D}{m:HF}{fr:Id}{K:D->HN->Prop}
def aYk{x:HJ}:AC S s m fr (.mv x) K=H4 (some (x.ev s)) (λd=>K d []) .mk:=by simp[AC,exec,H4]
def aCm:D->D->D->(K:D->HN->Prop)->Tag K->Prop
 | .bool t,a,b,K,_=>PG (t=true) (K a []) (K b []) .mk
 |_,_,_,_,_=>False
def lZ{t:Bool}{a b:D}{g:Tag K}:aCm (.bool t) a b K g=PG (t=true) (K a []) (K b []) .mk:=rfl
def aPL{c a b:HJ}:AC S s m fr (.pick c a b) K=aCm (c.ev s) (a.ev s) (b.ev s) K .mk:=by
 simp only[AC,exec];unfold aCm;cases c.ev s<;>simp only[AU];rename_i t;cases t<;>simp[H4,PG]
def aHS{zs:List D}:AC S s m fr (.alloc zs) K=H4 (some fr) (λfr=>K (.ptr fr 0) [(fr,0,zs)]) .mk:=by simp[AC,exec,H4]
def aTA{x:HJ}:AC S s m fr (.box x) K=H4 (some fr) (λfr=>H4 (some (x.ev s)) (λd=>Ap (d.data=true) (K (.ptr fr 0) [(fr,0,d.cells)]) .mk) .mk) .mk:=by
 simp only[AC,exec];rw[EQ,A4,A4,A4]
def aHR{zs:List D}{z:List (Nat×Nat×HJ)}:AC S s m fr (.build zs z) K=H4 (Cj zs (z.map λp=>(p.1,p.2.1,p.2.2.ev s))) (λcs=>K (.agg cs) []) .mk:=by
 simp_all [AC,exec,CJ]
def aBn{e sz:Nat}{z:List HJ}:AC S s m fr (.bslice e sz z) K=H4 (some fr) (λfr=>H4 (some (z.map λp=>p.ev s)) (λds=>Ap ((ds.all λd=>d.data&&d.cells.length==sz&&d.un.calm)=true) (K (.slice false fr (ds.map D.un)) [(fr,0,[.tok (e+1)])]) .mk) .mk) .mk:=by
 simp only[AC,exec];rw[EQ,A4,A4,A4,List.all_map,QJ];rfl
def Sj:Option Nat->D->(m:HF)->(K:D->HN->Prop)->Tag (m,K)->Prop
 |none,.ptr i o,m,K,_=>H4 (m i o) (λd=>K d []) .mk
 |some n,.ptr i o,m,K,_=>H4 (Ag m i o n) (λds=>K (.agg ds) []) .mk
 |none,.eptr ds,m,K,_=>H4 ds.head? (λd=>K d []) .mk
 |some n,.eptr ds,m,K,_=>Ap (n<=ds.length) (K (.agg (ds.take n)) []) .mk
 |_,_,_,_,_=>False
def yN{i:Id}{o:Nat}{g:Tag (m,K)}:Sj none (.ptr i o) m K g=H4 (m i o) (λd=>K d []) .mk:=rfl
def mU{i:Id}{o n:Nat}{g:Tag (m,K)}:Sj (some n) (.ptr i o) m K g=H4 (Ag m i o n) (λds=>K (.agg ds) []) .mk:=rfl
def Si{ds:List D}{g:Tag (m,K)}:Sj none (.eptr ds) m K g=H4 ds.head? (λd=>K d []) .mk:=rfl
def Po{ds:List D}{n:Nat}{g:Tag (m,K)}:Sj (some n) (.eptr ds) m K g=Ap (n<=ds.length) (K (.agg (ds.take n)) []) .mk:=rfl
def aPQ{k:Option Nat}{x:HJ}:AC S s m fr (.load k x) K=Sj k (x.ev s) m K .mk:=by
 simp only[AC,exec];unfold Sj;cases x.ev s<;>cases k<;>simp only[AU,CJ,Gi]
def lK(n:Nat):D->D->(m:HF)->(K:D->HN->Prop)->Tag (m,K)->Prop
 | .ptr i o,d,m,K,_=>Ap (d.data=true∧d.cells.length=n∧(Ag m i o n).isSome=true) (K .junk [(i,o,d.cells)]) .mk
 |_,_,_,_,_=>False
def lJ{n:Nat}{i:Id}{o:Nat}{d:D}{g:Tag (m,K)}:lK n (.ptr i o) d m K g=Ap (d.data=true∧d.cells.length=n∧(Ag m i o n).isSome=true) (K .junk [(i,o,d.cells)]) .mk:=rfl
def aHK{n:Nat}{x v:HJ}:AC S s m fr (.store n x v) K=lK n (x.ev s) (v.ev s) m K .mk:=by
 simp only[AC,exec];unfold lK;cases x.ev s<;>simp only[AU,Gi]
def LY:D->(K:D->HN->Prop)->Tag K->Prop
 | .ptr i o,K,_=>K (.ptr i o) []
 | .eptr ds,K,_=>K (.eptr ds) []
 | .fn f cs,K,_=>K (.fn f cs) []
 |_,_,_=>False
def eK{i:Id}{o:Nat}{g:Tag K}:LY (.ptr i o) K g=K (.ptr i o) []:=rfl
def VU{ds:List D}{g:Tag K}:LY (.eptr ds) K g=K (.eptr ds) []:=rfl
def mI{f:FuncId}{cs:List D}{g:Tag K}:LY (.fn f cs) K g=K (.fn f cs) []:=rfl
def aBm{x:HJ}:AC S s m fr (.nilchk x) K=LY (x.ev s) K .mk:=by
 simp only[AC,exec];unfold LY;cases x.ev s<;>simp[AU,A4]
def lX(fr:Id):D->(K:D->HN->Prop)->Tag K->Prop
 | .str b,K,_=>K (.itp fr) [(fr,1,[.it b 0])]
 |_,_,_=>False
def lW{b:List UInt8}{g:Tag K}:lX fr (.str b) K g=K (.itp fr) [(fr,1,[.it b 0])]:=rfl
def aHL{x:HJ}:AC S s m fr (.range x) K=lX fr (x.ev s) K .mk:=by
 simp only[AC,exec];unfold lX;cases x.ev s<;>simp[AU,A4]
def sE(i:Id):D->(K:D->HN->Prop)->Tag K->Prop
 | .it b z,K,_=>PG (z<b.length) (K (.tup [.bool true,.int .i64 (z:Nat),.int .i32 (Utf8.decode ⟨b.toArray⟩ z).1]) [(i,1,[.it b (z+(Utf8.decode ⟨b.toArray⟩ z).2)])]) (K (.tup [.bool false]) []) .mk
 |_,_,_=>False
def aCE{i:Id}{b:List UInt8}{z:Nat}{g:Tag K}:sE i (.it b z) K g=PG (z<b.length) (K (.tup [.bool true,.int .i64 (z:Nat),.int .i32 (Utf8.decode ⟨b.toArray⟩ z).1]) [(i,1,[.it b (z+(Utf8.decode ⟨b.toArray⟩ z).2)])]) (K (.tup [.bool false]) []) .mk:=rfl
def aCD:D->(m:HF)->(K:D->HN->Prop)->Tag (m,K)->Prop
 | .itp i,m,K,_=>H4 (m i 1) (λx=>sE i x K .mk) .mk
 |_,_,_,_=>False
def yG{i:Id}{g:Tag (m,K)}:aCD (.itp i) m K g=H4 (m i 1) (λx=>sE i x K .mk) .mk:=rfl
def aPM{x:HJ}:AC S s m fr (.next x) K=aCD (x.ev s) m K .mk:=by
 simp only[AC,exec];unfold aCD;cases x.ev s<;>try (simp only[AU];done)
 rename_i i;simp only;cases m i 1 with
 |none=>simp only[AU]
 |some d=>
  simp only[A4];unfold sE;cases d<;>simp only[AU];rename_i b z;rw[aLt,A4,A4]
def aTB{op:BinOp}{x y:HJ}:AC S s m fr (.bin op x y) K=H4 (AP op (x.ev s) (y.ev s)) (λd=>K d []) .mk:=XZ
def aYj{op:UnOp}{x:HJ}:AC S s m fr (.un op x) K=H4 (zL op (x.ev s)) (λd=>K d []) .mk:=XZ
def aKe(ne:Bool):D->D->Option D
 | .bool a,.bool b=>some (.bool ((a==b)!=ne))
 |_,_=>none
def aSq{a b:Bool}:aKe false (.bool a) (.bool b)=some (.bool (decide (a=b))):=by cases a<;>cases b<;>rfl
def aSp{a b:Bool}:aKe true (.bool a) (.bool b)=some (.bool (decide (a≠b))):=by cases a<;>cases b<;>rfl
def aTC{ne:Bool}{x y:HJ}:AC S s m fr (.beq ne x y) K=H4 (aKe ne (x.ev s) (y.ev s)) (λd=>K d []) .mk:=by
 simp only[AC,exec];unfold aKe;cases x.ev s<;>cases y.ev s<;>simp[AU,A4]
def aQg(ne:Bool)(a:List (Nat×Nat)):D->D->Option D
 | .agg xs,.agg ys=>(Bn xs ys a).map λb=> .bool (b !=ne)
 |_,_=>none
def RO{ne:Bool}{a:List (Nat×Nat)}{xs ys:List D}:aQg ne a (.agg xs) (.agg ys)=(Bn xs ys a).map λb=> .bool (b !=ne):=rfl
def aTu{ne:Bool}{a:List (Nat×Nat)}{x y:HJ}:AC S s m fr (.seq ne a x y) K=H4 (aQg ne a (x.ev s) (y.ev s)) (λd=>K d []) .mk:=by
 simp only[AC,exec];unfold aQg;cases x.ev s<;>cases y.ev s<;>simp[AU,CJ]
def aHM{ne:Bool}{k:Nat}{x y:HJ}:AC S s m fr (.nileq ne k x y) K=H4 (Nl k (x.ev s) (y.ev s)) (λb=>K (.bool (b !=ne)) []) .mk:=XZ
def aFr(k:IntKind):D->Option D
 | .int _ n=>some (.int k (k.wrap n))
 |_=>none
def aAj{k z:IntKind}{n:Int}:aFr k (.int z n)=some (.int k (k.wrap n)):=rfl
def aPW{k:IntKind}{x:HJ}:AC S s m fr (.conv k x) K=H4 (aFr k (x.ev s)) (λd=>K d []) .mk:=by
 simp only[AC,exec];unfold aFr;cases x.ev s<;>simp[AU,A4]
def aQi:D->Option D
 | .str b=>some (.str b)
 |_=>none
def aBQ{b:List UInt8}:aQi (.str b)=some (.str b):=rfl
def aTv{x:HJ}:AC S s m fr (.s2s x) K=H4 (aQi (x.ev s)) (λd=>K d []) .mk:=by
 simp only[AC,exec];unfold aQi;cases x.ev s<;>simp[AU,A4]
def aQj:D->Option D
 | .str b=>some (.slice false [] (AF b))
 |_=>none
def aBR{b:List UInt8}:aQj (.str b)=some (.slice false [] (AF b)):=rfl
def aTw{x:HJ}:AC S s m fr (.s2b x) K=H4 (aQj (x.ev s)) (λd=>K d []) .mk:=by
 simp only[AC,exec];unfold aQj;cases x.ev s<;>simp[AU,A4]
def aKg:D->Option D
 | .slice _ _ xs=>(BO xs).map .str
 |_=>none
def pK{nl:Bool}{t:Id}{xs:List D}:aKg (.slice nl t xs)=(BO xs).map .str:=rfl
def aTD{x:HJ}:AC S s m fr (.b2s x) K=H4 (aKg (x.ev s)) (λd=>K d []) .mk:=by
 simp only[AC,exec];unfold aKg;cases x.ev s<;>simp[AU,CJ]
def FA(off:Nat):D->Option D
 | .ptr i o=>some (.ptr i (o+off))
 | .eptr ds=>if off<=ds.length then some (.eptr (ds.drop off))else none
 |_=>none
def nX{off:Nat}{i:Id}{o:Nat}:FA off (.ptr i o)=some (.ptr i (o+off)):=rfl
def gG{off:Nat}{ds:List D}:FA off (.eptr ds)=if off<=ds.length then some (.eptr (ds.drop off))else none:=rfl
def aHQ{off:Nat}{x:HJ}:AC S s m fr (.faddr off x) K=H4 (FA off (x.ev s)) (λd=>K d []) .mk:=by
 simp only[AC,exec];unfold FA;cases x.ev s<;>simp only[AU,Gi,A4]
def Wd(off:Nat):Option Nat->D->Option D
 |none,.agg cs=>cs[off]?
 |some n,.agg cs=>if off+n<=cs.length then some (.agg ((cs.drop off).take n))else none
 |_,_=>none
def gE{off:Nat}{cs:List D}:Wd off none (.agg cs)=cs[off]?:=rfl
def nV{off n:Nat}{cs:List D}:Wd off (some n) (.agg cs)=if off+n<=cs.length then some (.agg ((cs.drop off).take n))else none:=rfl
def aHP{k:Option Nat}{off:Nat}{x:HJ}:AC S s m fr (.field k off x) K=H4 (Wd off k (x.ev s)) (λd=>K d []) .mk:=by
 simp only[AC,exec];unfold Wd;cases x.ev s<;>cases k<;>simp only[AU,CJ,Gi]
def V9(sz:Nat):D->D->(K:D->HN->Prop)->Tag K->Prop
 | .slice _ _ xs,.int _ n,K,_=>Ap (0<=n) (H4 xs[n.toNat]? (λd=>Ap (d.cells.length=sz) (K (.eptr d.cells) []) .mk) .mk) .mk
 | .row i l,.int _ n,K,_=>Ap (0<=n∧n<(l:Int)) (K (.ptr i (if sz=1 then n.toNat else n.toNat*sz)) []) .mk
 |_,_,_,_=>False
def nL{sz l:Nat}{i:Id}{k:IntKind}{n:Int}{g:Tag K}:V9 sz (.row i l) (.int k n) K g=Ap (0<=n∧n<(l:Int)) (K (.ptr i (if sz=1 then n.toNat else n.toNat*sz)) []) .mk:=rfl
def V8{sz:Nat}{nl:Bool}{t:Id}{xs:List D}{k:IntKind}{n:Int}{g:Tag K}:V9 sz (.slice nl t xs) (.int k n) K g=Ap (0<=n) (H4 xs[n.toNat]? (λd=>Ap (d.cells.length=sz) (K (.eptr d.cells) []) .mk) .mk) .mk:=rfl
def aHN{sz:Nat}{x i:HJ}:AC S s m fr (.iaddr sz x i) K=V9 sz (x.ev s) (i.ev s) K .mk:=by
 simp only[AC,exec];unfold V9;cases x.ev s<;>cases i.ev s<;>first|(simp only[AU];done)|(simp only[Gi,Ap];done)|skip
 rename_i nl t xs k n;rw[EQ];simp only[Ap];congr 1;cases xs[n.toNat]? with
 |none=>simp only[AU]
 |some d=>simp only[A4,Gi,Ap]
def aDM:D->D->(K:D->HN->Prop)->Tag K->Prop
 | .str b,.int _ n,K,_=>Ap (0<=n) (H4 b[n.toNat]? (λc=>K (.int .u8 (c.toNat:Int)) []) .mk) .mk
 |_,_,_,_=>False
def yS{b:List UInt8}{k:IntKind}{n:Int}{g:Tag K}:aDM (.str b) (.int k n) K g=Ap (0<=n) (H4 b[n.toNat]? (λc=>K (.int .u8 (c.toNat:Int)) []) .mk) .mk:=rfl
def aPR{x i:HJ}:AC S s m fr (.idxs x i) K=aDM (x.ev s) (i.ev s) K .mk:=by
 simp only[AC,exec];unfold aDM;cases x.ev s<;>cases i.ev s<;>try simp only[AU]
 rw[EQ,CJ]
def nN(len sz:Nat):D->D->(K:D->HN->Prop)->Tag K->Prop
 | .ptr j o,.int _ n,K,_=>Ap (0<=n∧n<(len:Int)) (K (.ptr j (o+n.toNat*sz)) []) .mk
 |_,_,_,_=>False
def nM{len sz o:Nat}{j:Id}{k:IntKind}{n:Int}{g:Tag K}:nN len sz (.ptr j o) (.int k n) K g=Ap (0<=n∧n<(len:Int)) (K (.ptr j (o+n.toNat*sz)) []) .mk:=rfl
def aHO{len sz:Nat}{x i:HJ}:AC S s m fr (.iadda len sz x i) K=nN len sz (x.ev s) (i.ev s) K .mk:=by
 simp only[AC,exec];unfold nN;cases x.ev s<;>cases i.ev s<;>try simp only[AU]
 rw[Gi,Ap]
def aDN(len sz:Nat):D->D->(K:D->HN->Prop)->Tag K->Prop
 | .agg cs,.int _ n,K,_=>Ap (0<=n∧n<(len:Int)∧n.toNat*sz+sz<=cs.length) (K (.agg ((cs.drop (n.toNat*sz)).take sz)) []) .mk
 |_,_,_,_=>False
def yT{len sz:Nat}{cs:List D}{k:IntKind}{n:Int}{g:Tag K}:aDN len sz (.agg cs) (.int k n) K g=Ap (0<=n∧n<(len:Int)∧n.toNat*sz+sz<=cs.length) (K (.agg ((cs.drop (n.toNat*sz)).take sz)) []) .mk:=rfl
def aPS{len sz:Nat}{x i:HJ}:AC S s m fr (.idxm len sz x i) K=aDN len sz (x.ev s) (i.ev s) K .mk:=by
 simp only[AC,exec];unfold aDN;cases x.ev s<;>cases i.ev s<;>try simp only[AU]
 rw[Gi,Ap]
def aDO(len:Nat):D->D->(K:D->HN->Prop)->Tag K->Prop
 | .agg cs,.int _ n,K,_=>Ap (0<=n∧n<(len:Int)) (H4 cs[n.toNat]? (λd=>K d []) .mk) .mk
 |_,_,_,_=>False
def yU{len:Nat}{cs:List D}{k:IntKind}{n:Int}{g:Tag K}:aDO len (.agg cs) (.int k n) K g=Ap (0<=n∧n<(len:Int)) (H4 cs[n.toNat]? (λd=>K d []) .mk) .mk:=rfl
def aPT{len:Nat}{x i:HJ}:AC S s m fr (.idxa len x i) K=aDO len (x.ev s) (i.ev s) K .mk:=by
 simp only[AC,exec];unfold aDO;cases x.ev s<;>cases i.ev s<;>try simp only[AU]
 rw[EQ,CJ]
def aJa(e:Bool):D->D->Option D
 | .int k a,.int _ b=>some (.int k (if e=true then max a b else min a b))
 |_,_=>none
def aQK{k z:IntKind}{a b:Int}:aJa true (.int k a) (.int z b)=some (.int k (max a b)):=rfl
def aQL{k z:IntKind}{a b:Int}:aJa false (.int k a) (.int z b)=some (.int k (min a b)):=rfl
def aTx{e:Bool}{x y:HJ}:AC S s m fr (.mxm e x y) K=H4 (aJa e (x.ev s) (y.ev s)) (λd=>K d []) .mk:=by
 simp only[AC,exec];unfold aJa;cases x.ev s<;>cases y.ev s<;>simp[AU,A4]
def Dc(b j:Nat):Option D->Option Nat
 |none=>some b
 |some (.int _ n)=>if 0<=n∧n<=j then some n.toNat else none
 |some _=>none
def IL(s:Nat->D):Option HJ->Option D
 |none=>none
 |some a=>some (a.ev s)
def mE:IL s none=none:=rfl
def mD{a:HJ}:IL s (some a)=some (a.ev s):=rfl
def iI{a b:Nat}:Dc a b none=some a:=rfl
def pI{a b:Nat}{k:IntKind}{n:Int}:Dc a b (some (.int k n))=if 0<=n∧n<=b then some n.toNat else none:=rfl
def iH{x:Option HJ}{a b:Nat}:Gc s x a b=Dc a b (IL s x):=by
 cases x with
 |none=>rfl
 |some x=>simp only[Gc,IL,Dc];cases x.ev s<;>rfl
def aFp:D->Option D->Option D->(K:D->HN->Prop)->Tag K->Prop
 | .str b,lo,hi,K,_=>H4 (Dc b.length b.length hi) (λh=>H4 (Dc 0 h lo) (λl=>K (.str ((b.drop l).take (h-l))) []) .mk) .mk
 |_,_,_,_,_=>False
def aAh{b:List UInt8}{lo hi:Option D}{g:Tag K}:aFp (.str b) lo hi K g=H4 (Dc b.length b.length hi) (λh=>H4 (Dc 0 h lo) (λl=>K (.str ((b.drop l).take (h-l))) []) .mk) .mk:=rfl
def aPU{x:HJ}{lo hi:Option HJ}:AC S s m fr (.cuts x lo hi) K=aFp (x.ev s) (IL s lo) (IL s hi) K .mk:=by
 simp only[AC,exec];unfold aFp;cases x.ev s<;>simp only[AU,iH];rename_i b;cases Dc b.length b.length (IL s hi)with
 |none=>simp only[AU]
 |some h=>
  simp only[A4];cases Dc 0 h (IL s lo)with
  |none=>simp only[AU]
  |some l=>simp only[A4]
def aFq(sz:Nat):D->Option D->Option D->(K:D->HN->Prop)->Tag K->Prop
 | .slice nl _ xs,lo,hi,K,_=>Ap (aF xs sz=sz) (H4 (Dc xs.length xs.length hi) (λh=>H4 (Dc 0 h lo) (λl=>K (.slice nl [] ((xs.drop l).take (h-l))) []) .mk) .mk) .mk
 |_,_,_,_,_=>False
def gW{sz:Nat}{nl:Bool}{t:Id}{xs:List D}{lo hi:Option D}{g:Tag K}:aFq sz (.slice nl t xs) lo hi K g=Ap (aF xs sz=sz) (H4 (Dc xs.length xs.length hi) (λh=>H4 (Dc 0 h lo) (λl=>K (.slice nl [] ((xs.drop l).take (h-l))) []) .mk) .mk) .mk:=rfl
def aPV{sz:Nat}{x:HJ}{lo hi:Option HJ}:AC S s m fr (.cutl sz x lo hi) K=aFq sz (x.ev s) (IL s lo) (IL s hi) K .mk:=by
 simp only[AC,exec];unfold aFq;cases x.ev s<;>simp only[AU,iH];rename_i nl t xs;rw[EQ];cases Dc xs.length xs.length (IL s hi)with
 |none=>simp[H4,Ap]
 |some h=>
  simp only;cases h1:Dc 0 h (IL s lo)with
  |none=>simp[H4,Ap,h1]
  |some l=>simp[H4,Ap,h1]
def aPO{t:TypeId}{x:HJ}:AC S s m fr (.mkif t x) K=Ap ((x.ev s).data=true∧(x.ev s).un.calm=true) (K (.iface t (x.ev s).un) []) .mk:=by
 simp only[AC,exec];rw[EQ,A4]
def aR0(i:Nat):D->Option D
 | .tup vs=>vs[i]?
 |_=>none
def aD6{i:Nat}{vs:List D}:aR0 i (.tup vs)=vs[i]?:=rfl
def aTz{i:Nat}{x:HJ}:AC S s m fr (.ext i x) K=H4 (aR0 i (x.ev s)) (λd=>K d []) .mk:=by
 simp only[AC,exec];unfold aR0;cases x.ev s<;>simp[AU,CJ]
def aPP{f:FuncId}{caps:List HJ}:AC S s m fr (.mkfn f caps) K=K (.fn f (caps.map (·.ev s))) []:=by simp[AC,exec,H4]
def aTy{b:Bool}{x:HJ}:AC S s m fr (.len b x) K=H4 (mW b (x.ev s)) (λn=>K (.int .i64 (n:Int)) []) .mk:=XZ
def aC4{b:List UInt8}:mW true (.str b)=some b.length:=rfl
def mV{nl:Bool}{t:Id}{xs:List D}:mW false (.slice nl t xs)=some xs.length:=rfl
def aC5{i:Id}{n:Nat}:mW false (.row i n)=some n:=rfl
def Mf(m:HF)(e:Nat):D->Prop
 | .slice nl t _=>nl=true∨(m t 0=some (.tok (e+1))∧t≠[])
 |_=>False
def Bm(e:Nat)(fr:Id):D->HN
 | .slice true _ _=>[(fr,0,[.tok (e+1)])]
 | .slice false t _=>[(t,0,[.tok 0]),(fr,0,[.tok (e+1)])]
 |_=>[]
def aSs(e sz bytes:Nat)(fr:Id):D->Option (List D)->(m:HF)->(K:D->HN->Prop)->Tag (m,K)->Prop
 | .slice nl t xs,some ys,m,K,_=>PG (nl=true∧ys=[]) (K (.slice true [] []) [])
   (Ap ((xs.length+ys.length)*(bytes+1)<=140737488355328∧aF ys sz=sz∧Mf m e (.slice nl t xs)) (K (.slice false fr (if nl=true then ys else xs++ys)) (Bm e fr (.slice nl t xs))) .mk) .mk
 |_,_,_,_,_=>False
def WK{sz:Nat}{nl:Bool}{t:Id}{ys:List D}:Lz sz (.slice nl t ys)=some ys:=rfl
def pL{sz:Nat}{b:List UInt8}:Lz sz (.str b)=if sz=1 then some (AF b)else none:=rfl
def pM{e sz bytes:Nat}{nl:Bool}{t:Id}{xs ys:List D}{g:Tag (m,K)}:aSs e sz bytes fr (.slice nl t xs) (some ys) m K g=PG (nl=true∧ys=[]) (K (.slice true [] []) [])
   (Ap ((xs.length+ys.length)*(bytes+1)<=140737488355328∧aF ys sz=sz∧Mf m e (.slice nl t xs)) (K (.slice false fr (if nl=true then ys else xs++ys)) (Bm e fr (.slice nl t xs))) .mk) .mk:=rfl
def BF{nl:Bool}{xs ys:List D}(h:nl=true->xs=[]):(if nl=true then ys else xs++ys)=xs++ys:=by
 simp_all
def aTE{e sz bytes:Nat}{x y:HJ}:AC S s m fr (.app e sz bytes x y) K=aSs e sz bytes fr (x.ev s) (Lz sz (y.ev s)) m K .mk:=by
 simp only[AC,exec];unfold aSs;cases x.ev s<;>cases Lz sz (y.ev s)<;>simp only[AU];rename_i nl t xs ys;by_cases u:nl=true∧ys=[]
 ·grind [A4,PG]
 ·rw[if_neg u];have v:∀A B:Prop,PG (nl=true∧ys=[]) A B .mk=B:=λA B=>by simp[PG,u]
  rw[v,EQ];cases nl with
  |true=>simp[H4,Ap,Bm,Mf,and_assoc]
  |false=>
   simp only[QS,Mf,Bm,false_or];cases hm:m t 0 with
   |none=>simp[H4,Ap]
   |some d=>
    cases d with
    |tok k=>
     by_cases g:k=e+1∧t≠[]
     ·grind [H4,Ap]
     ·grind [H4,Ap]
    |_=>simp[H4,Ap]
def aCJ(e sz bytes:Nat)(z:D)(fr:Id):D->D->(K:D->HN->Prop)->Tag K->Prop
 | .int _ n,.int _ c,K,_=>Ap (0<=n∧n<=c∧c*(bytes+1)<=140737488355328∧z.cells.length=sz) (if z.isRw=true then Ap (n=c) (K (.row fr n.toNat) [(fr,0,Q7 n.toNat z)]) .mk else K (.slice false fr (Q7 n.toNat z)) [(fr,0,[.tok (e+1)])]) .mk
 |_,_,_,_=>False
def yI{e sz bytes:Nat}{z:D}{k r:IntKind}{n c:Int}{g:Tag K}:aCJ e sz bytes z fr (.int k n) (.int r c) K g=Ap (0<=n∧n<=c∧c*(bytes+1)<=140737488355328∧z.cells.length=sz) (if z.isRw=true then Ap (n=c) (K (.row fr n.toNat) [(fr,0,Q7 n.toNat z)]) .mk else K (.slice false fr (Q7 n.toNat z)) [(fr,0,[.tok (e+1)])]) .mk:=rfl
def aJF:D.isRw .nilIface=true:=rfl
def aDC{k:IntKind}{n:Int}:D.isRw (.int k n)=false:=rfl
def aDB:D.isRw (.str [])=true:=rfl
def yP{b:Bool}:D.isRw (.bool b)=false:=rfl
def nG{nl:Bool}{t:Id}{xs:List D}:D.isRw (.slice nl t xs)=false:=rfl
def aDD{xs:List D}:D.isRw (.agg xs)=false:=rfl
def aPN{e sz bytes:Nat}{z:D}{n c:HJ}:AC S s m fr (.mksl e sz bytes z n c) K=aCJ e sz bytes z fr (n.ev s) (c.ev s) K .mk:=by
 simp only[AC,exec];unfold aCJ;cases n.ev s<;>cases c.ev s<;>first|(simp only[AU];done)|skip
 by_cases d:z.isRw=true
 ·simp_all [EQ,A4,Ap]
 ·simp_all [EQ,A4,Ap]
def SO(S:HD):D->List D->(m:HF)->Id->(K:D->HN->Prop)->Tag (m,K)->Prop
 | .fn f caps,ds,m,fr,K,_=>H4 (S f) (λq=>H4 (q.ex (ds++caps) m fr) (λx=>K x.1 x.2) .mk) .mk
 |_,_,_,_,_,_=>False
def aPX{f:HJ}{xs:List HJ}:AC S s m fr (.call f xs) K=SO S (f.ev s) (xs.map (·.ev s)) m fr K .mk:=by
 simp only[AC,exec];unfold SO;cases f.ev s<;>simp only[AU];rename_i f caps;cases S f with
 |none=>simp only[AU]
 |some q=>simp only[A4]
def AH{f:FuncId}{caps ds:List D}{q:Il}{g:Tag (m,K)}(h:S f=some q):SO S (.fn f caps) ds m fr K g=H4 (q.ex (ds++caps) m fr) (λx=>K x.1 x.2) .mk:=by
 grind [SO,A4]
def Ab{f:FuncId}{caps ds:List D}{F:List D->Option D}{g:Tag (m,K)}(h:S f=some (Ac F)):SO S (.fn f caps) ds m fr K g=Ap (((ds++caps).map D.un).all D.calm=true) (H4 (F ((ds++caps).map D.un)) (λr=>K r []) .mk) .mk:=by
 rw[AH h];simp only[Ac,EQ,Ap];rw[CJ]
def AE(S:HD)(f:FuncId){q:Il}(h:S f=some q:=by exact rfl){caps ds:List D}{g:Tag (m,K)}:SO S (.fn f caps) ds m fr K g=H4 (q.ex (ds++caps) m fr) (λx=>K x.1 x.2) .mk:=AH h
def Ae(S:HD)(f:FuncId){F:List D->Option D}(h:S f=some (Ac F):=by exact rfl){caps ds:List D}{g:Tag (m,K)}:SO S (.fn f caps) ds m fr K g=Ap (((ds++caps).map D.un).all D.calm=true) (H4 (F ((ds++caps).map D.un)) (λr=>K r []) .mk) .mk:=Ab h
end
def Af{S:HD}{ns:Id}{c b:DC}{Q:Ex->St->Prop}{v:St}{t:Tag (S,ns,c,Q,v)}(h:c=b)(k:b.wp S ns (eV S ns c Q) v):A9 S ns c Q v t:=aBp (h▸k)
section
variable{k:IntKind}{a b:Int}
def aT2:AP .add (.int k a) (.int k b)=some (.int k (k.wrap (a+b))):=Xn
def aTM:AP .sub (.int k a) (.int k b)=some (.int k (k.wrap (a-b))):=Xn
def aTU:AP .mul (.int k a) (.int k b)=some (.int k (k.wrap (a*b))):=Xn
def aTQ:AP .quo (.int k a) (.int k b)=if b≠0 then some (.int k (k.wrap (a.tdiv b)))else none:=by by_cases h:b=0<;>simp[AP,h]
def aTP:AP .rem (.int k a) (.int k b)=if b≠0 then some (.int k (a.tmod b))else none:=by by_cases h:b=0<;>simp[AP,h]
def aT1:AP .and (.int k a) (.int k b)=some (.int k (bits .and k a b)):=Xn
def aYp:AP .or (.int k a) (.int k b)=some (.int k (bits .or k a b)):=Xn
def aTL:AP .xor (.int k a) (.int k b)=some (.int k (bits .xor k a b)):=Xn
def aTZ:AP .eql (.int k a) (.int k b)=some (.bool (decide (a=b))):=by simp[AP];rfl
def aTS:AP .neq (.int k a) (.int k b)=some (.bool (decide (¬a=b))):=by simp[AP];rfl
def aTV:AP .lss (.int k a) (.int k b)=some (.bool (decide (a<b))):=Xn
def aTW:AP .leq (.int k a) (.int k b)=some (.bool (decide (a<=b))):=Xn
def aTX:AP .gtr (.int k a) (.int k b)=some (.bool (decide (b<a))):=Xn
def aTY:AP .geq (.int k a) (.int k b)=some (.bool (decide (b<=a))):=Xn
def aTO{z:IntKind}:AP .shl (.int k a) (.int z b)=if 0<=b then some (.int k (k.wrap (a*2 ^ min b.toNat k.bits)))else none:=Xn
def aTN{z:IntKind}:AP .shr (.int k a) (.int z b)=if 0<=b then some (.int k (a.fdiv (2 ^ min b.toNat k.bits)))else none:=Xn
variable{x y:List UInt8}
def aT0:AP .add (.str x) (.str y)=if x.length+y.length<=9223372036854775807 then some (.str (x++y))else none:=Xn
def aP5:AP .eql (.str x) (.str y)=some (.bool (decide (x=y))):=by
 grind [AP]
def aP4:AP .neq (.str x) (.str y)=some (.bool (decide (¬x=y))):=by
 grind [AP]
def aTR{p:Bool}:zL .not (.bool p)=some (.bool (!p)):=rfl
def aTT:zL .neg (.int k a)=some (.int k (k.wrap (0-a))):=rfl
end
def aI4{p:Prop}[Decidable p]:(!decide p)=decide (¬p):=by by_cases h:p<;>simp[h]
def aEk{p:Prop}[Decidable p]:(decide p=true)=p:=U
def aAd{p:Prop}[Decidable p]:(decide p=false)=¬p:=U
def aY9:(false=true)=False:=U
def aYr:(true=false)=False:=U
def aJI{p A B:Prop}{t:Tag (A,B)}:PG (¬p) A B t=PG p B A .mk:=by
 grind [PG]
def xI{o:DOper}{l:List DOper}:DL (o::l) 0=o.dst:=rfl
def xJ{o:DOper}{l:List DOper}{j:Nat}:DL (o::l) (j+1)=DL l j:=by simp[DL]
def aKh{m:HF}:HN.app m []=m:=rfl
def aFK{m:HF}{i:Id}{o:Nat}{ds:List D}{u:HN}:HN.app m ((i,o,ds)::u)=HN.app (m.put i o ds) u:=rfl
def cJ:BO []=some []:=rfl
def Vg{n:Int}{r:List D}:BO (.int .u8 n::r)=(BO r).map (UInt8.ofNat n.toNat::·):=rfl
def VO{α β:Type}{f:α->β}{x:α}:(some x).map f=some (f x):=rfl
def gJ{rs:List RV}{R:D->HF->Prop}{v:St}:Eo rs R .normal v=H4 (CB rs v.s v.m) (λd=>R d v.m) .mk:=by
 simp[Eo,H4]
def aD8{rs:List RV}{R:D->HF->Prop}{v:St}:Eo rs R .ret v=H4 (CB rs v.s v.m) (λd=>R d v.m) .mk:=by
 simp[Eo,H4]
def zO{rs:List RV}{R:D->HF->Prop}{v:St}{i:Nat}:Eo rs R (.exit i) v=False:=by
 simp[Eo]
def aIE{s:Nat->D}{m:HF}{t:Nat}:CB [.t t] s m=some (s t):=rfl
def aID{s:Nat->D}{m:HF}{t c:Nat}:CB [.t t,.t c] s m=some (.tup [s t,s c]):=rfl
def xW{s:Nat->D}{m:HF}{t c a:Nat}:CB [.t t,.t c,.t a] s m=some (.tup [s t,s c,s a]):=rfl
def aCa{s:Nat->D}{m:HF}:CB [] s m=some (.tup []):=rfl
def nZ{d:D}{ds:List D}:BQ (d::ds) 0=d:=rfl
def oA{d:D}{ds:List D}{t:Nat}:BQ (d::ds) (t+1)=BQ ds t:=rfl
def zM{t:Nat}:BQ [] t= .junk:=rfl
def dE(S:HD)(ns:Id)(c:Nat)(ops l:List DOper)(k:Nat)(s:Nat->D)(q:Option Nat)(m:HF)(K:Nat->(Nat->D)->HF->Prop)(d:D)(u:HN):Prop:=GF S ns c ops l k (Cb s q d) (HN.app m u) K
def ON(S:HD)(ns:Id)(c:Nat)(ops l:List DOper)(k:Nat)(s:Nat->D)(q:Option Nat)(m:HF)(op:DOp)(K:Nat->(Nat->D)->HF->List MX->Prop)(d:D)(u:HN):Prop:=
 Ct S ns c ops l k (Cb s q d) (HN.app m u) λz r m' f=>K z r m' ((H3 S s m op,AA u)::f)
section
variable{S:HD}{ns:Id}{c k:Nat}{ops l:List DOper}{s:Nat->D}{m:HF}{dst:Option Nat}{op:DOp}{af:List Nat}{j:Nat}{b:Bool}{d:D}{i:Id}{o e:Nat}{fr:Id}{ds:List D}{u:HN}
section
variable{K:Nat->(Nat->D)->HF->Prop}
def aIz:GF S ns c ops [] k s m K=K k s m:=rfl
def aIy:GF S ns c ops (⟨dst,op,af,none⟩::l) k s m K=AC S s m ((c+k)::ns) op (dE S ns c ops l (k+1) s dst m K):=rfl
def aQm:GF S ns c ops (⟨dst,op,af,some (j,b)⟩::l) k s m K=MH (Hq s (DL ops j)) b
   (AC S s m ((c+k)::ns) op (dE S ns c ops l (k+1) s dst m K)) (GF S ns c ops l (k+1) (Cb s dst (.tup [])) m K) .mk:=rfl
def aB2:dE S ns c ops l k s dst m K d []=GF S ns c ops l k (Cb s dst d) m K:=rfl
def xS:dE S ns c ops l k s dst m K d ((i,o,ds)::u)=dE S ns c ops l k s dst (m.put i o ds) K d u:=rfl
def Om{n:D}:dE S ns c ops l k s dst m K d (Bm e fr n)=GF S ns c ops l k (Cb s dst d) (HN.app m (Bm e fr n)) K:=rfl
end
variable{K:Nat->(Nat->D)->HF->List MX->Prop}
def zS:Ct S ns c ops [] k s m K=K k s m []:=rfl
def zR:Ct S ns c ops (⟨dst,op,af,none⟩::l) k s m K=AC S s m ((c+k)::ns) op (ON S ns c ops l (k+1) s dst m op K):=rfl
def aEc:Ct S ns c ops (⟨dst,op,af,some (j,b)⟩::l) k s m K=MH (Hq s (DL ops j)) b
   (AC S s m ((c+k)::ns) op (ON S ns c ops l (k+1) s dst m op K))
   (Ct S ns c ops l (k+1) (Cb s dst (.tup [])) m λz r m' f=>K z r m' ((H3 S s m op,[])::f)) .mk:=rfl
def oC:ON S ns c ops l k s dst m op K d []=Ct S ns c ops l k (Cb s dst d) m λz r m' f=>K z r m' ((H3 S s m op,[])::f):=rfl
def gM:ON S ns c ops l k s dst m op K d ((i,o,ds)::u)=Ct S ns c ops l k (Cb s dst d) (HN.app (m.put i o ds) u) λz r m' f=>K z r m' ((H3 S s m op,AA ((i,o,ds)::u))::f):=rfl
def gL{n:D}:ON S ns c ops l k s dst m op K d (Bm e fr n)=Ct S ns c ops l k (Cb s dst d) (HN.app m (Bm e fr n)) λz r m' f=>K z r m' ((H3 S s m op,AA (Bm e fr n))::f):=rfl
end
def aFn{k:IntKind}{n:Int}:D.data (.int k n)=true:=rfl
def aFl{b:List UInt8}:D.data (.str b)=true:=rfl
def aAg{b:Bool}:D.data (.bool b)=true:=rfl
def oU{nl:Bool}{t:Id}{xs:List D}:D.data (.slice nl t xs)=true:=rfl
def aFo{xs:List D}:D.data (.agg xs)=true:=rfl
def aFm{i:Id}{o:Nat}:D.data (.ptr i o)=true:=rfl
def gV:D.data .nilptr=true:=rfl
def aAq{k:IntKind}{n:Int}:D.cells (.int k n)=[.int k n]:=rfl
def aAo{b:List UInt8}:D.cells (.str b)=[.str b]:=rfl
def oZ{b:Bool}:D.cells (.bool b)=[.bool b]:=rfl
def F9{nl:Bool}{t:Id}{xs:List D}:D.cells (.slice nl t xs)=[.slice nl t xs]:=rfl
def aAr{xs:List D}:D.cells (.agg xs)=xs:=rfl
def aAp{i:Id}{o:Nat}:D.cells (.ptr i o)=[.ptr i o]:=rfl
def aP9{k:IntKind}{n:Int}:D.un (.int k n)= .int k n:=rfl
def aP8{b:List UInt8}:D.un (.str b)= .str b:=rfl
def aH6{b:Bool}:D.un (.bool b)= .bool b:=rfl
def aBz{nl:Bool}{t:Id}{xs:List D}:D.un (.slice nl t xs)= .slice nl [] xs:=rfl
def aQa{xs:List D}:D.un (.agg xs)= .agg (xs.map D.un1):=rfl
def aT3{f:FuncId}{cs:List D}:D.un (.fn f cs)= .fn f cs:=rfl
def aIc{k:IntKind}{n:Int}:D.un1 (.int k n)= .int k n:=rfl
def aIb{b:List UInt8}:D.un1 (.str b)= .str b:=rfl
def aBB{b:Bool}:D.un1 (.bool b)= .bool b:=rfl
def wX{nl:Bool}{t:Id}{xs:List D}:D.un1 (.slice nl t xs)= .slice nl [] xs:=rfl
def aH9{k:IntKind}{n:Int}:D.unR (.int k n)= .int k n:=rfl
def aH8{b:List UInt8}:D.unR (.str b)= .str b:=rfl
def aBA{b:Bool}:D.unR (.bool b)= .bool b:=rfl
def wW{nl:Bool}{t:Id}{xs:List D}:D.unR (.slice nl t xs)= .slice nl [] xs:=rfl
def aIa{xs:List D}:D.unR (.agg xs)= .agg (xs.map D.un1):=rfl
def aH7{xs:List D}:D.unR (.tup xs)= .tup (xs.map D.un):=rfl
def aFB{k:IntKind}{n:Int}:D.calm (.int k n)=true:=rfl
def aFz{b:List UInt8}:D.calm (.str b)=true:=rfl
def aAt{b:Bool}:D.calm (.bool b)=true:=rfl
def pC{nl:Bool}{xs:List D}:D.calm (.slice nl [] xs)=true:=rfl
def aAu{xs:List D}:D.calm (.agg xs)=xs.all D.calm1:=rfl
def aKb{f:FuncId}:D.calm (.fn f [])=true:=rfl
def aAA{k:IntKind}{n:Int}:D.calm1 (.int k n)=true:=rfl
def aAz{b:List UInt8}:D.calm1 (.str b)=true:=rfl
def pF{b:Bool}:D.calm1 (.bool b)=true:=rfl
def iF{nl:Bool}{xs:List D}:D.calm1 (.slice nl [] xs)=true:=rfl
def aAx{k:IntKind}{n:Int}:D.calmR (.int k n)=true:=rfl
def aAw{b:List UInt8}:D.calmR (.str b)=true:=rfl
def pE{b:Bool}:D.calmR (.bool b)=true:=rfl
def iE{nl:Bool}{xs:List D}:D.calmR (.slice nl [] xs)=true:=rfl
def aAy{xs:List D}:D.calmR (.agg xs)=xs.all D.calm1:=rfl
def aAv{xs:List D}:D.calmR (.tup xs)=xs.all D.calm:=rfl
def aQW{f:D->D}{x:D}{xs:List D}:(x::xs).map f=f x::xs.map f:=rfl
def aJz{f:D->D}:ZP f []=[]:=rfl
def aQV{f:HJ->D}{x:HJ}{xs:List HJ}:(x::xs).map f=f x::xs.map f:=rfl
def aJy{f:HJ->D}:ZP f []=[]:=rfl
def aQU{f:Nat×Nat×HJ->Nat×Nat×D}{x:Nat×Nat×HJ}{xs:List (Nat×Nat×HJ)}:(x::xs).map f=f x::xs.map f:=rfl
def aJx{f:Nat×Nat×HJ->Nat×Nat×D}:ZP f []=[]:=rfl
def aVM{f:D->Bool}{x:D}{xs:List D}:(x::xs).all f=(f x&&xs.all f):=rfl
def aQ3{f:D->Bool}:List.all [] f=true:=rfl
def aVK{x:D}{xs:List D}:(x::xs).length=xs.length+1:=rfl
def aQX:([]:List D).length=0:=rfl
def aVL{x:D}{xs ys:List D}:(x::xs)++ys=x::(xs++ys):=rfl
def aQ2{ys:List D}:[]++ys=ys:=rfl
def aQ1{ys:List D}:ys++[]=ys:=U
def aQ0{x:D}{xs:List D}:(x::xs)[0]?=some x:=rfl
def aQZ{x:D}{xs:List D}{n:Nat}:(x::xs)[n+1]?=xs[n]?:=rfl
def aQY{x:D}{xs:List D}:(x::xs).head?=some x:=rfl
def aVG{n:Nat}:(n==n)=true:=U
def aQw:(True∧True)=True:=U
def aUg{p:Prop}:(True∧p)=p:=U
def aQx{p:Prop}:(p∧True)=p:=U
def aYy:(¬False)=True:=U
def aYx:(¬True)=False:=U
def aZf:(true=true)=True:=U
def aZg:(false=false)=True:=U
def aZb:decide True=true:=U
def aZc:decide False=false:=U
def C2:=Qa @cY <| Qa @aBO <| Qa @xN <| Qa @Tu <| Qa @pJ <| Qa @EL <| Qa @V1 <| Qa @yL <| Qa @mT <| Qa @aBo <| Qa @aHV <| Qa @aBq <| Qa @aHT <| Qa @cA <| Qa @kZ <| Qa @wT <| Qa @bZ <| Qa @kY <| Qa @xL <| Qa @xM <| Qa @bK <| Qa @bL <| Qa @aYk <| Qa @aPL <| Qa @aHS <| Qa @aTA <| Qa @aHR <| Qa @aBn <| Qa @aPQ <| Qa @aHL <| Qa @aPM <| Qa @aHK <| Qa @aBm <| Qa @aTB <| Qa @aYj <| Qa @aTC <| Qa @aTu <| Qa @aHM <| Qa @aPW <| Qa @aTv <| Qa @aTw <| Qa @aTD <| Qa @aHQ <| Qa @aHP <| Qa @aHN <| Qa @aPR <| Qa @aPT <| Qa @aPS <| Qa @aTx <| Qa @aHO <| Qa @aPU <| Qa @aPV <| Qa @aPO <| Qa @aTz <| Qa @aPP <| Qa @aTy <| Qa @aTE <| Qa @aPN <| Qa @aPX <| Qa @gJ <| Qa @aD8 <| Qa @zO <| Qa @aIE <| Qa @aID <| Qa @xW <| Qa @aCa <| Qa @aIz <| Qa @aIy <| Qa @aQm <| Qa @aB2 <| Qa @xS <| Qa @Om <| Qa @oC <| Qa @gM <| Qa @gL <| Qa @zS <| Qa @zR <| Qa @aEc <| Qa @xI @xJ
def HH:=Qa @U6 <| Qa @aDL <| Qa @yR <| Qa @A4 <| Qa @AU <| Qa @EQ <| Qa @CJ <| Qa @Lk <| Qa @nQ <| Qa @CS <| Qa @MT <| Qa @lZ <| Qa @yN <| Qa @lW <| Qa @yG <| Qa @aCE <| Qa @mU <| Qa @Si <| Qa @Po <| Qa @lJ <| Qa @eK <| Qa @VU <| Qa @mI <| Qa @aSq <| Qa @aSp <| Qa @RO <| Qa @aAj <| Qa @aBQ <| Qa @aBR <| Qa @pK <| Qa @nX <| Qa @gG <| Qa @gE <| Qa @nV <| Qa @V8 <| Qa @yS <| Qa @yU <| Qa @yT <| Qa @aQK <| Qa @aQL <| Qa @nM <| Qa @aAh <| Qa @gW <| Qa @mE <| Qa @mD <| Qa @iI <| Qa @pI <| Qa @aD6 <| Qa @aC4 <| Qa @mV <| Qa @aC5 <| Qa @pM <| Qa @WK <| Qa @pL <| Qa @yI <| Qa @aJF <| Qa @aDC <| Qa @aDB <| Qa @yP <| Qa @nG <| Qa @aDD <| Qa @nL <| Qa @aT2 <| Qa @aTM <| Qa @aTU <| Qa @aTQ <| Qa @aTP <| Qa @aT1 <| Qa @aYp <| Qa @aTL <| Qa @aTZ <| Qa @aTS <| Qa @aTV <| Qa @aTW <| Qa @aTX <| Qa @aTY <| Qa @aTO <| Qa @aTN <| Qa @aT0 <| Qa @aP5 <| Qa @aP4 <| Qa @aTR <| Qa @aTT <| Qa @aI4 <| Qa @aEk <| Qa @aAd <| Qa @aY9 <| Qa @aYr <| Qa @aJI <| Qa @aKh <| Qa @aFK <| Qa @cJ <| Qa @Vg <| Qa @VO <| Qa @nZ <| Qa @oA @zM
def Iz:=Qa @aFn <| Qa @aFl <| Qa @aAg <| Qa @oU <| Qa @aFo <| Qa @aFm <| Qa @gV <| Qa @aAq <| Qa @aAo <| Qa @oZ <| Qa @F9 <| Qa @aAr <| Qa @aAp <| Qa @aP9 <| Qa @aP8 <| Qa @aH6 <| Qa @aBz <| Qa @aQa <| Qa @aT3 <| Qa @aIc <| Qa @aIb <| Qa @aBB <| Qa @wX <| Qa @aH9 <| Qa @aH8 <| Qa @aBA <| Qa @wW <| Qa @aIa <| Qa @aH7 <| Qa @aFB <| Qa @aFz <| Qa @aAt <| Qa @pC <| Qa @aAu <| Qa @aKb <| Qa @aAA <| Qa @aAz <| Qa @pF <| Qa @iF <| Qa @aAx <| Qa @aAw <| Qa @pE <| Qa @iE <| Qa @aAy @aAv
def HZ:=Qa @aQW <| Qa @aJz <| Qa @aQV <| Qa @aJy <| Qa @aQU <| Qa @aJx <| Qa @aVM <| Qa @aQ3 <| Qa @aVK <| Qa @aQX <| Qa @aVL <| Qa @aQ2 <| Qa @aQ1 <| Qa @aQ0 <| Qa @aQZ <| Qa @aQY <| Qa @aVG <| Qa @aQw <| Qa @aUg <| Qa @aQx <| Qa @aYy <| Qa @aYx <| Qa @aZf <| Qa @aZg <| Qa @aZb <| Qa @aZc <| Qa @ZG <| Qa @Bool.and_true <| Qa @ZH @ZD
def HG:(type_of% @Qi.{0,0})∧(type_of% @QO.{0,0})∧(type_of% @HH)∧(type_of% @Iz)∧(type_of% @HZ):=
 ⟨@Qi,@QO,@HH,@Iz,@HZ⟩
def H1:(type_of% @QM.{0})∧(type_of% @Qg.{0})∧(type_of% @Qh.{0})∧(type_of% @Qk.{0})∧(type_of% @Qw)∧(type_of% @Qm)∧(type_of% @Qx)∧(type_of% @and_self)∧(type_of% @HH)∧(type_of% @Iz)∧(type_of% @HZ):=
 ⟨@QM,@Qg,@Qh,@Qk,@Qw,@Qm,@Qx,@and_self,@HH,@Iz,@HZ⟩
def HE:(type_of% @HH)∧(type_of% @Iz)∧(type_of% @HZ):=
 ⟨@HH,@Iz,@HZ⟩
def Aj {P:Program} {f:FuncId} {N:Nat} {b:DC} {rs:List RV} {a:Func} {r:Code} (u:P.funcs[f]?=some a) (y:a.body=some r:=by rfl) (o:(a.name== "runtime.NumGoroutine")=false:=by kernel_rfl) (j:a.ntmps=N:=by rfl) (p:Bh P N r=some b:=by kernel_rfl) (v:Mi P a.results.toList=some rs:=by kernel_rfl):Fn P f N b rs:=⟨a,r,u,y,o,j,p,v⟩
def startG(G:Nat->Nat):Gh:={G:=G,G0:=G,dl:=λ_=>none,tb:=λ_=>none}
def Oh(P:Program)(w:World){G:Nat->Nat}(q:∀b,w.heap.size<=b->G b=0):HQ P w.heap.size w (λ_ _=>none) w (startG G):=
 ⟨Below.refl _ _,QA _,q,λ_ _=>rfl,λi b h=>by simp[startG]at h,λi a b h=>by simp[startG]at h,λi o d h=>Xd,λi e h=>Xd,λi a e m b x v h=>Xd,λi s p h=>Xd,λi a s p r c b x v h=>Xd⟩
def aQl{P:Program}{f:FuncId}{F:List D->Option D}(h:(Ac F).ok P f){w:World}{G:Nat->Nat}(q:∀b,w.heap.size<=b->G b=0){ds:List D}{vs:List Value}{d:D}(hl:vs.length=ds.length)
  (c:∀(j:Nat) d v,ds[j]?=some d->vs[j]?=some v->Rep w (startG G) d v) (m:ds.map D.un=ds) (s:ds.all D.calm=true) (y:F ds=some d):
  Calls P f vs.toArray w λe w'=>∃v t,e= .returned v∧Rep w' t d v∧Below w.heap.size w w':=by
 have z:(Ac F).ex ds (λ_ _=>none) []=some (d,[]):=by
  grind [Ac]
 refine(h.run (Oh P w q) (λi _=>⟨λ_=>rfl,rfl,rfl⟩) hl c z).mono ?_;rintro e w' ⟨v,t,rfl,k⟩;exact⟨v,t,rfl,k.rep,k.inv.below⟩
def aB0{P:Program}{f:FuncId}{F:List D->Option D}(h:(Ac F).ok P f){w:World}{G:Nat->Nat}(a:∀b,w.heap.size<=b->G b=0){ds:List D}{vs:List Value}(hl:vs.length=ds.length)
  (c:∀(j:Nat) d v,ds[j]?=some d->vs[j]?=some v->Rep w (startG G) d v) (m:ds.map D.un=ds) (s:ds.all D.calm=true) (z:F ds=some (.bool true)):
  Calls P f vs.toArray w λe w'=>e= .returned (.bool true)∧Below w.heap.size w w':=by
 refine(aQl h a hl c m s z).mono ?_;rintro e w' ⟨v,t,rfl,i,q⟩;rw[i.bool_inv];exact⟨rfl,q⟩
def AK(f:List MX)(ps:List (Nat×Nat)):Bool:=ps.all λp=>(f.getD p.1 ([],[])).2.all λl=>!((f.getD p.2 ([],[])).1.contains l)&&!((f.getD p.2 ([],[])).2.contains l)
def Al{f:List MX}{ps:List (Nat×Nat)}(h:AK f ps=true):MN f ps:=by
 intro p g l hl;have u:=Qt.1 h p g;have y:=Qt.1 u l hl;simpa using y
def A0{f:List MX}{ps:List (Nat×Nat)}{K:Prop}{t:Tag K}(k:K)(h:AK f ps=true:=by first|rfl|simp[AK,AA,H3,Ai,Ac]):Ap (MN f ps) K t:=⟨Al h,k⟩
def DC.run(S:HD)(ns:Id):Nat->DC->St->Option (Ex×St)
 |0,_,_=>none
 |_+1,.skip,st=>some (.normal,st)
 |_+1,.ret,st=>some (.ret,st)
 |_+1,.exit i,st=>some (.exit i,st)
 |_+1,.row ops,st=>match EK S ns st.c ops ops 0 st.s st.m with
  |some (s,m)=>some (.normal,⟨s,m,st.c+ops.length⟩)
  |none=>none
 |_+1,.drawn ops ps,st=>match Cs S ns st.c ops ops 0 st.s st.m with
  |some (s,m,f)=>if AK f ps=true then some (.normal,⟨s,m,st.c+ops.length⟩)else none
  |none=>none
 |n+1,.seq a b,st=>match DC.run S ns n a st with
  |some (.normal,st1)=>DC.run S ns n b st1
  |r=>r
 |n+1,.cond c a b,st=>match c.ev st.s with
  | .bool true=>DC.run S ns n a st
  | .bool false=>DC.run S ns n b st
  |_=>none
 |n+1,.block i c,st=>match DC.run S ns n c st with
  |some (.exit j,st1)=>if j=i then some (.normal,st1)else some (.exit j,st1)
  |r=>r
 |n+1,.loop c,st=>match DC.run S ns n c st with
  |some (.normal,st1)=>DC.run S ns n (.loop c) st1
  |r=>r
def aQk{S:HD}{ns:Id}:∀(n:Nat)(w:DC)(v:St)(e:Ex)(q:St),DC.run S ns n w v=some (e,q)->Ev S ns w v e q:=by
 intro n;induction n with
 |zero=>intro w v e q h;simp[DC.run]at h
 |succ n ih=>
  intro w v e q h;cases w with
  |skip=>simp only[DC.run,Qb,Qs]at h;exact⟨h.1.symm,h.2.symm⟩
  |ret=>simp only[DC.run,Qb,Qs]at h;exact⟨h.1.symm,h.2.symm⟩
  |exit i=>simp only[DC.run,Qb,Qs]at h;exact⟨h.1.symm,h.2.symm⟩
  |row ops=>
   simp only[DC.run]at h;split at h
   ·rename_i s m y;simp only[Qb,Qs]at h;obtain⟨rfl,rfl⟩:=h;exact⟨rfl,y,rfl⟩
   ·cases h
  |drawn ops ps=>
   simp only[DC.run]at h;split at h
   ·rename_i s m f y;split at h
    ·rename_i r;simp only[Qb,Qs]at h;obtain⟨rfl,rfl⟩:=h;exact⟨rfl,⟨f,y,Al r⟩,rfl⟩
    ·cases h
   ·cases h
  |seq a b=>
   simp only[DC.run]at h;split at h
   ·rename_i t u;exact⟨.normal,t,ih _ _ _ _ u,.inl ⟨rfl,ih _ _ _ _ h⟩⟩
   ·rename_i p;refine⟨e,q,ih _ _ _ _ h,.inr ⟨λy=>?_,rfl,rfl⟩⟩;subst y;exact p q h
  |cond c a b=>
   simp only[DC.run]at h;split at h
   ·rename_i d;exact .inl ⟨d,ih _ _ _ _ h⟩
   ·rename_i d;exact .inr ⟨d,ih _ _ _ _ h⟩
   ·cases h
  |block i c=>
   simp only[DC.run]at h;split at h
   ·rename_i j t u;split at h
    ·rename_i z;simp only[Qb,Qs]at h;obtain⟨rfl,rfl⟩:=h;exact⟨.exit j,ih _ _ _ _ u,.inl ⟨by rw[z],rfl⟩⟩
    ·rename_i z;simp only[Qb,Qs]at h;obtain⟨rfl,rfl⟩:=h;exact⟨.exit j,ih _ _ _ _ u,.inr ⟨by simp[z],rfl⟩⟩
   ·rename_i p;refine⟨e,ih _ _ _ _ h,.inr ⟨λy=>?_,rfl⟩⟩;subst y;exact p i q h
  |loop c=>
   simp only[DC.run]at h;split at h
   ·rename_i t u;obtain⟨k,g⟩:=ih _ _ _ _ h;exact⟨k+1,.more k _ _ _ _ (ih _ _ _ _ u) g⟩
   ·rename_i p;refine⟨0,.stop _ _ _ (ih _ _ _ _ h) (λy=>?_)⟩;subst y;exact p q h
def OK(S:HD)(N:Nat)(b:DC)(rs:List RV)(fuel:Nat)(ds:List D):Option D:=
 if ds.length<=N then match DC.run S [] fuel b ⟨BQ ds,λ_ _=>none,0⟩with
  |some (.exit _,_)=>none
  |some (_,st)=>match CB rs st.s st.m with
   |some d=>if d.unR.calmR=true then some d.unR else none
   |none=>none
  |none=>none
 else none
def OJ{P:Program}{S:HD}{f:FuncId}{N:Nat}{b:DC}{rs:List RV}(g:HD.ok P S)(k:Fn P f N b rs)(fuel:Nat):(Ac (OK S N b rs fuel)).ok P f:=by
 refine AO g k (λds r h=>?_) (λds r h=>?_)
 ·grind [OK]
 ·unfold OK at h;split at h
  ·split at h
   ·cases h
   ·rename_i j v p q;split at h
    ·rename_i d z;split at h
     ·rename_i s;simp only[Qb]at h;subst h;refine⟨j,v,aQk _ _ _ _ _ q,?_,d,z,rfl,s⟩;cases j with
      |normal=>exact .inl rfl
      |ret=>exact .inr rfl
      |exit i=>exact absurd rfl (p i)
     ·cases h
    ·cases h
   ·cases h
  ·cases h
end Go.Vd
namespace Go.Vd
open Go.Proofs Go.RowKit
inductive Tz where
 |bo|st|pt|fu|nf|mp|un
 |im (k:IntKind)
 |sl (e sz by':Nat)
 |gr (zs:List D) (fs:List (Nat×Nat))
 |ar (zs:List D) (len e:Nat)
def zT:Nat->Tz
 |3=> .im .i64
 |4=> .bo
 |5=> .im .u8
 |9=> .st
 |21=> .im .i32
 |22=> .im .u16
 |23=> .sl 9 1 16
 |26=> .sl 68 3 32
 |28=> .gr [(.slice true [] [])] [(0,26)]
 |29=> .sl 107 3 56
 |31=> .gr [(.slice true [] [])] [(0,29)]
 |33=> .gr [(.bool false),(.int .i64 0),(.str []),(.slice true [] []),(.slice true [] [])] [(0,4),(1,3),(2,9),(3,28),(4,31)]
 |34=> .pt
 |36=> .gr [.nilptr] [(0,34)]
 |38=> .gr [(.bool false),(.int .i64 0),(.str []),(.slice true [] []),(.slice true [] []),.nilptr,(.int .i64 0)] [(0,33),(5,36),(6,3)]
 |46=> .sl 3 1 8
 |47=> .sl 174 2 24
 |49=> .gr [(.int .u8 0),(.str []),(.str []),(.str []),(.int .i64 0),(.int .i64 0),(.bool false),(.slice true [] []),(.str []),(.slice true [] []),(.str [])] [(0,5),(1,9),(2,9),(3,9),(4,3),(5,3),(6,4),(7,46),(8,9),(9,47),(10,9)]
 |50=> .im .i64
 |58=> .fu
 |62=> .gr [(.int .u8 0),(.str []),(.int .i64 0)] [(0,5),(1,9),(2,3)]
 |66=> .gr [(.int .i64 0),(.bool false)] [(0,3),(1,4)]
 |68=> .gr [(.str []),(.int .i64 0),(.bool false)] [(0,9),(1,66)]
 |71=> .sl 80 3 16
 |73=> .gr [(.int .i64 0),(.bool false),(.int .i64 0),(.slice true [] [])] [(0,3),(1,4),(2,3),(3,71)]
 |80=> .gr [(.int .i64 0),(.bool false),(.bool false)] [(0,3),(1,4),(2,4)]
 |85=> .gr [(.int .u8 0),(.int .i64 0),(.int .i64 0),(.str []),(.slice true [] []),(.int .i64 0),(.bool false),(.int .i64 0),(.slice true [] []),(.bool false)] [(0,5),(1,50),(2,3),(3,9),(4,23),(5,73),(9,4)]
 |98=> .sl 167 3 40
 |100=> .gr [(.str []),(.bool false),(.str []),(.slice true [] []),(.bool false),(.int .i64 0),(.str []),(.slice true [] []),(.slice true [] [])] [(0,9),(1,4),(2,9),(3,98),(4,33)]
 |107=> .gr [(.str []),(.str []),(.slice true [] [])] [(0,9),(1,9),(2,47)]
 |108=> .sl 5 1 1
 |109=> .im .u64
 |113=> .gr [(.str []),(.str [])] [(0,9),(1,9)]
 |124=> .pt
 |126=> .gr [(.str []),(.int .i64 0),(.int .i64 0)] [(0,9),(1,3),(2,50)]
 |133=> .fu
 |136=> .gr [(.str []),(.str []),.nilptr,.nilptr,(.int .i64 0),(.int .i64 0),(.int .i64 0)] [(0,9),(1,9),(2,34),(3,34),(4,3),(5,3),(6,3)]
 |150=> .fu
 |160=> .sl 4 1 1
 |161=> .sl 23 1 24
 |163=> .gr [(.slice true [] []),(.slice true [] []),(.slice true [] []),(.slice true [] []),(.slice true [] [])] [(0,23),(1,23),(2,160),(3,23),(4,161)]
 |167=> .gr [(.int .u8 0),(.str []),(.str [])] [(0,5),(1,9),(2,9)]
 |170=> .fu
 |174=> .gr [(.str []),(.int .u8 0)] [(0,9),(1,5)]
 |176=> .ar [(.str []),(.str []),(.str []),(.str []),(.str []),(.str []),(.str []),(.str []),(.str []),(.str []),(.str []),(.str []),(.str []),(.str []),(.str []),(.str []),(.str []),(.str []),(.str []),(.str []),(.str []),(.str []),(.str []),(.str []),(.str []),(.str []),(.str []),(.str []),(.str []),(.str []),(.str []),(.str []),(.str []),(.str []),(.str []),(.str []),(.str []),(.str [])] 19 113
 |184=> .fu
 |185=> .im .u64
 |189=> .gr [] []
 |194=> .pt
 |196=> .gr [.nilptr,(.slice true [] [])] [(0,194),(1,108)]
 |223=> .fu
 |225=> .pt
 |227=> .gr [(.bool false),(.int .i64 0),(.str []),(.slice true [] []),(.slice true [] []),(.int .u8 0),(.str []),(.str []),(.str []),(.int .i64 0),(.int .i64 0),(.bool false),(.slice true [] []),(.str []),(.slice true [] []),(.str []),(.slice true [] []),(.slice true [] []),(.slice true [] []),(.slice true [] []),(.slice true [] []),(.str []),(.bool false),(.str []),(.slice true [] []),(.bool false),(.int .i64 0),(.str []),(.slice true [] []),(.slice true [] [])] [(0,33),(5,49),(16,163),(21,100)]
 |259=> .fu
 |268=> .im .u32
 |313=> .fu
 |314=> .sl 26 1 24
 |336=> .fu
 |338=> .sl 160 1 24
 |340=> .sl 161 1 24
 |343=> .fu
 |346=> .im .i64
 |354=> .sl 29 1 24
 |356=> .ar [(.slice true [] []),(.slice true [] [])] 2 47
 |363=> .fu
 |_=> .un
def Tz.z:Tz->List D
 | .bo=>[.bool false]
 | .st=>[.str []]
 | .pt=>[.nilptr]
 | .fu=>[.nilFunc]
 | .nf=>[.nilIface]
 | .mp=>[.nilMap]
 | .un=>[]
 | .im k=>[.int k 0]
 | .sl _ _ _=>[.slice true [] []]
 | .gr zs _=>zs
 | .ar zs _ _=>zs
def Tz.k:Tz->Option Nat
 | .gr zs _=>some zs.length
 | .ar zs _ _=>some zs.length
 |_=>none
def Tz.d(t:Tz):D:=match t with
 | .gr zs _=> .agg zs
 | .ar zs _ _=> .agg zs
 |t=>t.z.headD .junk
def Tz.n(t:Tz):Nat:=t.z.length
def tA:Operand->HJ
 | .tmp t=> .t t
 | .const v=> .c ((ofVal v).getD .junk)
 | .func f=> .c (.fn f [])
 | .global _=> .t 0
def lk{α:Type}(d:α)(k:Nat):List (Nat×α)->α
 |[]=>d
 |(j,x)::r=>if j=k then x else lk d k r
def fAt(t:Tz)(f:Nat):Nat×Nat:=match t with
 | .gr _ fs=>fs.getD f (0,0)
 |_=>(0,0)
def Pm:List (Nat×Nat)->List (Nat×Nat)
 |[]=>[]
 |(o,t)::r=>(match zT t with
  | .im _=>[(0,o)]
  | .bo=>[(1,o)]
  | .st=>[(2,o)]
  | .gr _ fs=>fs.map λp=>((match zT p.2 with| .im _=>0| .bo=>1|_=>2),o+p.1)
  |_=>[])++Pm r
def tE(ne:Bool)(t:Tz)(a b:HJ):DOp:=match t with
 | .bo=> .beq ne a b
 | .im _=> .bin (if ne=true then .neq else .eql) a b
 | .st=> .bin (if ne=true then .neq else .eql) a b
 | .gr _ fs=> .seq ne (Pm fs) a b
 | .sl _ _ _=> .nileq ne 0 a b
 | .pt=> .nileq ne 1 a b
 | .fu=> .nileq ne 3 a b
 | .nf=> .nileq ne 2 a b
 |_=> .stop
def tB(o:BinOp)(t:Tz)(a b:HJ):DOp:=match o with
 | .eql=>tE false t a b
 | .neq=>tE true t a b
 |o=> .bin o a b
def tC(s t:Tz)(x:HJ):DOp:=match s,t with
 | .im _,.im k=> .conv k x
 | .st,.st=> .s2s x
 | .st,.sl _ _ _=> .s2b x
 | .sl _ _ _,.st=> .b2s x
 |_,_=> .stop
def tX(t:Tz)(x i:HJ):DOp:=match t with
 | .sl _ s _=> .iaddr s x i
 | .ar _ n e=> .iadda n (zT e).n x i
 |_=> .stop
def tI(t:Tz)(x i:HJ):DOp:=match t with
 | .st=> .idxs x i
 | .ar _ n e=>(match (zT e).k with
  |none=> .idxa n x i
  |some s=> .idxm n s x i)
 |_=> .stop
def tS(t:Tz)(x:HJ)(l h:Option HJ):DOp:=match t with
 | .st=> .cuts x l h
 | .sl _ s _=> .cutl s x l h
 |_=> .stop
def tP(t:Tz)(l:List (Nat×Operand)):DOp:=match t with
 | .gr zs fs=> .build zs (l.map λp=>((fs.getD p.1 (0,0)).1,(zT (fs.getD p.1 (0,0)).2).n,tA p.2))
 | .ar zs _ e=> .build zs (l.map λp=>(p.1*(zT e).n,(zT e).n,tA p.2))
 |_=> .stop
def tG(t:Tz)(l:List (Nat×Operand)):DOp:=match t with
 | .sl e s _=> .bslice e s (l.map λp=>tA p.2)
 |_=> .stop
def tM(t:Tz)(n c:HJ):DOp:=match t with
 | .sl e s b=> .mksl e s b (zT e).d n c
 |_=> .stop
def tL(c:Callee)(xs:List Operand)(ts:List Nat):DOp:=match c with
 | .value f=> .call (tA f) (xs.map tA)
 | .builtin .len=>(match xs,ts with
  |[x],[t]=>(match zT t with| .st=> .len true (tA x)|_=> .len false (tA x))
  |_,_=> .stop)
 | .builtin .append=>(match xs,ts with
  |[x,y],[t,_]=>(match zT t with| .sl e s b=> .app e s b (tA x) (tA y)|_=> .stop)
  |_,_=> .stop)
 | .builtin .max=>(match xs with|[x,y]=> .mxm true (tA x) (tA y)|_=> .stop)
 | .builtin .min=>(match xs with|[x,y]=> .mxm false (tA x) (tA y)|_=> .stop)
 |_=> .stop
def tO:Op->DOp
 | .move x=> .mv (tA x)
 | .assign x=> .mv (tA x)
 | .pick c a b=> .pick (tA c) (tA a) (tA b)
 | .alloc t=> .alloc (zT t).z
 | .box _ x=> .box (tA x)
 | .build t l=>tP (zT t) l.toList
 | .buildSlice t _ l=>tG (zT t) l.toList
 | .load t x=> .load (zT t).k (tA x)
 | .store t x v=> .store (zT t).n (tA x) (tA v)
 | .nilCheck x=> .nilchk (tA x)
 | .binOp o t x y _=>tB o (zT t) (tA x) (tA y)
 | .unOp o _ x=> .un o (tA x)
 | .convert s t x=>tC (zT s) (zT t) (tA x)
 | .fieldAddr t x f=> .faddr (fAt (zT t) f).1 (tA x)
 | .field t x f=> .field (zT (fAt (zT t) f).2).k (fAt (zT t) f).1 (tA x)
 | .indexAddr t x i=>tX (zT t) (tA x) (tA i)
 | .index t x i=>tI (zT t) (tA x) (tA i)
 | .slice t x l h _=>tS (zT t) (tA x) (l.map tA) (h.map tA)
 | .makeInterface t x=> .mkif t (tA x)
 | .typeAssert x _ t ok=> .tass t ok (zT t).d (tA x)
 | .extract x i=> .ext i (tA x)
 | .makeSlice t n c=>tM (zT t) (tA n) (tA c)
 | .range _ x=> .range (tA x)
 | .next x _=> .next (tA x)
 | .makeFunc (.func f) _ l=> .mkfn f (l.toList.map tA)
 | .call c=>tL c.callee c.args.toList c.argTypes.toList
 |_=> .stop
def tR(o:Oper):DOper:=⟨o.dst,tO o.op,[],o.guard⟩
def nW:Code->Nat
 | .region i _ _=>i
 | .seq a _=>nW a
 | .block _ a=>nW a
 | .loop a=>nW a
 |_=>0
def V0(k:Nat):Code->Option Code
 | .seq a b=>(V0 k a).or (V0 k b)
 | .cond _ a b=>(V0 k a).or (V0 k b)
 | .block _ a=>V0 k a
 | .loop a=>if nW a=k then some a else V0 k a
 |_=>none
def tQ(ps:List (Nat×List (Nat×Nat)))(ls:List (Nat×DC)):Code->DC
 | .skip=> .skip
 | .ret=> .ret
 | .exit i=> .exit i
 | .region i ops false=> .row (ops.toList.map tR)
 | .region i ops true=> .drawn (ops.toList.map tR) (lk [] i ps)
 | .seq a b=> .seq (tQ ps ls a) (tQ ps ls b)
 | .cond c a b=> .cond (tA c) (tQ ps ls a) (tQ ps ls b)
 | .block i c=> .block i (tQ ps ls c)
 | .loop c=> .loop (lk .skip (nW c) ls)
 |_=> .skip
def tAi(k i):tA (.const (.int k i))= .c (.int k i):=rfl
def tAb(b):tA (.const (.bool b))= .c (.bool b):=rfl
def tAs(s):tA (.const (.string s))= .c (.str s.data.toList):=rfl
def tAl:tA (.const (.slice none 0 0))= .c (.slice true [] []):=rfl
def tAp:tA (.const (.pointer none))= .c .nilptr:=rfl
def tAn:tA (.const .nilIface)= .c .nilIface:=rfl
def tAu:tA (.const .nilFunc)= .c .nilFunc:=rfl
def tAg(l):tA (.const (.agg l))= .c ((ofVal (.agg l)).getD .junk):=rfl
def tAt(t):tA (.tmp t)= .t t:=rfl
def tAf(f):tA (.func f)= .c (.fn f []):=rfl
def bAt(f:Func):Code:=f.body.getD .skip
abbrev y0(f:Func)(ps:List (Nat×List (Nat×Nat)))(ls:List (Nat×DC)){c:DC}(_:tQ ps ls (bAt f)=c:=by exact Eq.trans (by conv=>lhs;whnf) (by simp only[tQ,tR,tO,tAt,tAi,tAb,tAs,tAf,tAl,tAp,tAn,tAu,tAg,zT,Tz.k,Tz.z,Tz.n,Tz.d,tL,tP,tB,tE,tX,tS,tI,tG,tC,tM,fAt,Pm,lk,ofVal,List.getD_cons_zero,List.getD_cons_succ,List.map_cons,List.map_nil,List.length_cons,List.length_nil,List.headD_cons,List.cons_append,List.nil_append,Option.map_some,Option.map_none,Option.getD_some,Bool.false_eq_true,reduceIte,Nat.reduceAdd,Nat.reduceMul,Nat.reduceEqDiff]<;>rfl)):DC:=c
abbrev y1(f:Func)(k:Nat)(ps:List (Nat×List (Nat×Nat)))(ls:List (Nat×DC)){c:DC}(_:tQ ps ls ((V0 k (bAt f)).getD .skip)=c:=by exact Eq.trans (by conv=>lhs;whnf) (by simp only[tQ,tR,tO,tAt,tAi,tAb,tAs,tAf,tAl,tAp,tAn,tAu,tAg,zT,Tz.k,Tz.z,Tz.n,Tz.d,tL,tP,tB,tE,tX,tS,tI,tG,tC,tM,fAt,Pm,lk,ofVal,List.getD_cons_zero,List.getD_cons_succ,List.map_cons,List.map_nil,List.length_cons,List.length_nil,List.headD_cons,List.cons_append,List.nil_append,Option.map_some,Option.map_none,Option.getD_some,Bool.false_eq_true,reduceIte,Nat.reduceAdd,Nat.reduceMul,Nat.reduceEqDiff]<;>rfl)):DC:=c
end Go.Vd
namespace Go.Vd
open Go.RowKit
structure uZ (p:Id->Id):Prop where
 inv:∀i,p (p i)=i
 nil:p []=[]
def uZ.inj{p:Id->Id}(h:uZ p){i j:Id}(e:p i=p j):i=j:=by rw[←h.inv i,e,h.inv]
def uZ.nn{p:Id->Id}(h:uZ p){i:Id}(e:p i≠[]):i≠[]:=λhi=>e (by rw[hi,h.nil])
section
variable{P:Program}{S:HD}{f:FuncId}{N:Nat}{dc:DC}{rs:List RV}
end
section
variable{P:Program}{f:FuncId}
end
def DV(e:Nat):Il where
 rd:=λ_ _=>[]
 ex:=λds _ fr=>match ds with
  |[.slice true _ [],.int .i64 k]=>if 0<k∧k<=1000000 then some (.slice false (0::fr) [],[(0::fr,0,[.tok (e+1)])])else none
  |_=>none
def Ny {P:Program} {f:FuncId} {e sz:Nat} (p:∃fn,P.funcs[f]?=some fn∧fn.body.isSome=true∧(fn.name== "runtime.NumGoroutine")=false) (ka:0<sz)
  (hi:∃ti z,P.info? e=some ti∧ti.size=sz∧ti.zero=some z∧z.cells.size=sz)
  (b:∀(w:World)(k:Nat),0<k->k<=1000000->Calls P f #[.slice none 0 0,.int .i64 (k:Int)] w λev w'=>∃c cs,c<=maxLen∧cs.size=c*sz∧ev= .returned (.slice (some ⟨w.heap.size,0,none⟩) 0 c)∧w'=w.drew.alloc (.cells cs e)):(DV e).ok P f:=by
 refine⟨p,λds m m' fr _=>rfl,?_⟩;intro B w0 w m g fr ds vs r u q ia hl da y;simp only[DV]at y;split at y
 ·rename_i t k;split at y
  ·rename_i s;obtain⟨va,hk⟩:=s;simp only[Qb,Qs]at y;obtain⟨rfl,rfl⟩:=y
   match vs,hl with
   |[v0,v1],_=>
    have la:=da 0 _ v0 rfl rfl;have pa:=(da 1 _ v1 rfl rfl).int_inv;subst pa;have e0:v0= .slice none 0 0:=by
     rcases la.slice_inv with ⟨_,_,e⟩|⟨h,_⟩
     ·exact e
     ·cases h
    subst e0;have ca:((k.toNat:Nat):Int)=k:=Int.toNat_of_nonneg O;have hw:=b w k.toNat O O;rw[ca]at hw;refine hw.mono ?_;rintro ev w' ⟨c,cs,eb,ra,rfl,rfl⟩;have sa:=ia (0::fr) (QI 0 fr);have a:=(q.drew).newTok sa (e:=e) (n:=0) (c:=c) (sz:=sz) (cur:=cs) ka hi (Qx _) eb ra;have ma:=(H5.drew w g).trans (H5.newTok (w:=w.drew) (t:=0::fr) (n:=0) (c:=c) (sz:=sz) (Obj.cells cs e) q.drew.gz sa.2.2 rfl);refine⟨_,_,rfl,a,ma,?_,λi hf x=>C_ hf (λh=>x ((QI 0 fr).trans h)) _ _ _ _ _⟩;exact aH (sz:=sz) (xs:=[]) (vs:=[]) (cur:=cs) (T:=e) (fz:=(0,0)) (heap_alloc_new w.drew _) rfl (Qx _) (λd o=>by cases o) (AZ.nil _ _) (λj v hv=>by simp at hv) U (λ_=>Xl) (λd o=>by cases o)
  ·cases y
 ·cases y
def FD:List D->Option (List D)
 |[]=>some []
 | .slice _ _ xs::r=>(FD r).map (xs++·)
 |_=>none
def V5:D->Bool
 | .str _=>true
 |_=>false
def rD:D->List UInt8
 | .str s=>s
 |_=>[]
def aIH{P:Program}{B:Nat}{w0 w w':World}{m:HF}{g:Gh}{e n:Nat}{v:Value}{xs:List D}(hi:HQ P B w0 m w g)(f:Below w.heap.size w w')(p:xs.all V5=true)(hn:n=xs.length)
  (k:w'.ownsRow w.heap.size e 1 v n (xs.map λd=>Value.string ⟨(rD d).toArray⟩)) (i:v≠ .slice none 0 0):Rep w' (g.over w w') (.slice false [] xs) v:=by
 obtain⟨u,y⟩:=k;rcases y with ⟨y,_⟩|⟨b,cap,cur,rfl,ba,q,c,t,ka,qa⟩
 ·exact absurd y i
 ·have z:∀d∈xs,d.cells.length=1∧d.calm=true:=by
   intro d o;have:=Qt.1 p d o;unfold V5 at this;split at this
   ·exact Y6
   ·cases this
  have ra:AZ w' (g.over w w') (flat xs) (xs.map λd=>Value.string ⟨(rD d).toArray⟩):=by
   clear hn u qa i;induction xs with
   |nil=>exact AZ.nil _ _
   |cons x r ih=>
    simp only[ZI,Q3]at p;have a:=ih p.2 (λd o=>z d (Q1 _ o))
    match x,p.1 with
    | .str s,_=>exact AZ.append (AZ.one (.str s) rfl) a
  refine aH (sz:=1) (vs:=xs.map λd=>Value.string ⟨(rD d).toArray⟩) q hn c (λd o=>(z d o).1) ra (λj v i=>?_) ?_ (λh=>absurd rfl h) (λd o=>(z d o).2)
  ·grind
  ·grind [Gh.over]
mutual
def D.off(i:Id):D->Bool
 | .ptr j _=>j !=i
 | .row j _=>j !=i
 | .agg cs=>aV i cs
 | .tup cs=>aV i cs
 | .fn _ cs=>aV i cs
 |_=>true
def aV(i:Id):List D->Bool
 |[]=>true
 |d::r=>D.off i d&&aV i r
end
def Lb{i:Id}:∀{l:List D},aV i l=true↔∀d∈l,d.off i=true
 |[]=>by simp[aV]
 |d::r=>by simp only[aV,Q3,Lb,Zm,forall_eq_or_imp]
def VT{i:Id}{w:World}{g:Gh}{ds:List D}{vs:List Value}(hl:vs.length=ds.length)(h:∀(j:Nat) d v,ds[j]?=some d->vs[j]?=some v->d.off i=true):aV i ds=true:=by
 rw[Lb];intro d z;obtain⟨j,u,rfl⟩:=QW z;exact h j _ vs[j] (Qc u) (Qc O)
def Rep.off{w:World}{g:Gh}{i:Id}(hi:g.dl i=none){d:D}{v:Value}(h:Rep w g d v):d.off i=true:=by
 induction h with
 |ptr j o b u=>
  simp only[D.off,bne_iff_ne,ne_eq];rintro rfl;rw[hi]at u;cases u
 |row j n c b q u=>
  simp only[D.off,bne_iff_ne,ne_eq];rintro rfl;rw[hi]at u;cases u
 |agg ds vs u y r ih=>simp only[D.off];exact VT (w:=w) (g:=g) u ih
 |tup ds vs u y ih=>simp only[D.off];exact VT (w:=w) (g:=g) u ih
 |fn f ds vs u y ih=>simp only[D.off];exact VT (w:=w) (g:=g) u ih
 |_=>rfl
def Rep.drop{w:World}{g g':Gh}{i:Id}(ta:∀j b,j≠i->g.dl j=some b->g'.dl j=some b)(hG:∀b,g.G b<=g'.G b)(u:∀j x,g.tb j=some x->g'.tb j=some x){d:D}{v:Value}(h:Rep w g d v)(ho:d.off i=true):Rep w g' d v:=by
 have calm:∀{d:D} {v:Value},Rep w g d v->d.calm=true->Rep w g' d v:=λh hc=>h.calm_to hc (λ_ _=>rfl) hG
 have cf:∀{xs:List D},(∀d∈xs,d.calm=true)->∀d∈flat xs,d.calm=true:=λh9 d z=>by
  have:=G9 h9 d z
  first|exact this|(cases d<;>simp_all [D.calm,D.calm1])
 induction h with
 |junk v=>exact .junk v
 |bool b=>exact .bool b
 |int k n=>exact .int k n
 |str s=>exact .str s
 |nils t=>exact .nils _
 |slice t xs a n c sz vv q y r m p h6 h7 h8 h9 ih=>
  refine .slice t xs a n c sz vv q y r m p (λj d z=>calm (h6 j d z) (cf h9 d (Qr z))) (λh=>QR (h7 h) (hG _)) (λht=>?_) h9;obtain⟨q1,q2,q3⟩:=h8 ht;exact⟨q1,q2,u _ _ q3⟩
 |ptr j o b q=>exact .ptr j o b (ta j b (by simpa[D.off]using ho) q)
 |row j n c b h0 q=>exact .row j n c b h0 (ta j b (by simpa[D.off]using ho) q)
 |eptr ds a vv q y r m p=>exact .eptr ds a vv q y (λj d z=>calm (r j d z) (p d (Qr z))) (λh=>QR (m h) (hG _)) p
 |nilp=>exact .nilp
 |agg ds vs q y r ih=>
  simp only[D.off,Lb]at ho;exact .agg _ vs q y (λj d v z e=>ih j d v z e (ho d (Qr z)))
 |tup ds vs q y ih=>
  simp only[D.off,Lb]at ho;exact .tup _ vs q (λj d v z e=>ih j d v z e (ho d (Qr z)))
 |iface t d v q y ih=>exact .iface t d v q (calm y q)
 |nili=>exact .nili
 |fn f ds vs q y ih=>
  simp only[D.off,Lb]at ho;exact .fn f _ vs q (λj d v z e=>ih j d v z e (ho d (Qr z)))
 |nilf=>exact .nilf
 |nilm=>exact .nilm
 |itp j b q=>exact .itp j b (u _ _ q)
def aFA{i:Id}{d:D}(h:d.calm1=true):d.off i=true:=by
 cases d with
 |fn f cs=>
  have:cs=[]:=by simpa[D.calm1]using h
  subst this;rfl
 |_=>first|rfl|(simp[D.calm1]at h;done)
def qR:∀{u:HN} {m:HF} {i:Id} {o:Nat} {d:D},(∀p∈u,∀x∈p.2.2,x.calm1=true)->HN.app m u i o=some d->d.calm1=true∨m i o=some d
 |[],m,i,o,d,_,h=> .inr h
 |(j,k,ds)::u,m,i,o,d,hu,h=>by
  rcases qR (u:=u) (λp g=>hu p (Q1 _ g)) h with h1|h1
  ·exact .inl h1
  ·by_cases s:i=j∧k<=o∧o<k+ds.length
   ·left;have:m.put j k ds i o=ds[o-k]?:=by unfold HF.put;rw[if_pos s]
    rw[this]at h1;exact hu _ (Q5 ..) d (Qr h1)
   ·grind [HF.put]
def qQ:∀{u:HN} {m:HF} {i:Id} {o:Nat},(∀p∈u,p.1≠i)->HN.app m u i o=m i o
 |[],m,i,o,_=>rfl
 |(j,k,ds)::u,m,i,o,hu=>by
  have q:=qQ (u:=u) (m:=m.put j k ds) (i:=i) (o:=o) (λp g=>hu p (Q1 _ g));have y:i≠j:=λe=>hu _ (Q5 ..) e.symm
  exact q.trans (aA y)
def tH:∀{xs:List D},(∀x∈xs,x.cells=[x])->flat xs=xs
 |[],_=>rfl
 |x::r,h=>by
  rw[flat,h x (Q5 ..),tH λy s=>h y (Q1 _ s)];rfl
section
variable{P:Program}{B:Nat}{w0 w:World}{m:HF}{g:Gh}{S:HD}{f:FuncId}{N:Nat}{dc:DC}{rs:List RV}
def Gh.settle(g:Gh)(i:Id)(b n:Nat):Gh:={g with dl:=λj=>if j=i then none else g.dl j,G:=λz=>if z=b then n else g.G z}
theorem aIV (hS : HD.ok P S) (hf : Fn P f N dc rs) {q : Il} (z : ∀ ds m m' fr, (∀ l ∈ q.rd ds m, m l.1 l.2 = m' l.1 l.2) → q.ex ds m fr = q.ex ds m' fr)
  (hq : ∀ ds m fr r u, q.ex ds m fr = some (r, u) → (∀ i o, fr <:+ i → m i o = none) → ds.length ≤ N ∧ (∀ p ∈ u, ¬ fr <:+ p.1 ∧ ∀ x ∈ p.2.2, x.calm1 = true) ∧ ∃ xs, r = .slice false [] xs ∧ (∀ x ∈ xs, x.calm = true ∧ x.cells = [x]) ∧
   dc.wp S fr (Eo rs fun d m' => ∃ i, d = .row i xs.length ∧ fr <:+ i ∧ (∀ (j : Nat) x, xs[j]? = some x → m' i j = some x) ∧ ∀ i o x, HN.app m u i o = some x → m' i o = some x) ⟨BQ ds, m, 0⟩) : q.ok P f := by
 obtain ⟨fn, ca, h1, h2, h3, h4, h5, h6⟩ := hf.is
 refine ⟨⟨fn, h1, by rw [h2]; rfl, h3⟩, z, ?_⟩
 intro B w0 w m g fr ds vs r u hi ia hl da aa
 have ba : ∀ k i, (k :: fr) <:+ i → B3 m g i := fun k i h => ia i ((QI k fr).trans h)
 obtain ⟨hN, hu, xs, rfl, ib, za⟩ := hq ds m fr r u aa (fun i o h => (ia i h).1 o)
 have ja := Ha (ns := fr) hS hf hN hi ba hl da za
 refine ja.mono ?_
 rintro e w' ⟨v, d, m', g', rfl, fa, ma, oa, ab, i, rfl, ea, ha, sa⟩
 obtain ⟨b, cap, rfl, qa, hb⟩ := ab.row_inv
 obtain ⟨mb, kb, cur, T, a, ua⟩ := fa.obj i b hb
 have va : g.dl i = none := (ia i ea).2.1
 have t : ∀ b', g'.G b' ≤ (g'.settle i b xs.length).G b' := by
  grind [Gh.settle]
 have db : ∀ {d : D} {v : Value}, Rep w' g' d v → d.off i = true → Rep w' (g'.settle i b xs.length) d v := fun h ho =>
  h.drop (i := i) (fun j b' hj e => by simp only [Gh.settle]; rw [if_neg hj]; exact e) t (fun _ _ e => e) ho
 have base := fa.less sa
 have y : ∀ o, HN.app m u i o = none := fun o => by
  rw [qQ (fun p hp e => (hu p hp).1 (e ▸ ea))]; exact (ia i ea).1 o
 have bb : ∀ j o d, HN.app m u j o = some d → d.off i = true := by
  intro j o d hd
  rcases qR (fun p hp => (hu p hp).2) hd with h | h
  ·exact aFA h
  ·cases hdl : g.dl j with
   | none =>
    have hk := hi.kind j o d h hdl
    cases d <;> first | rfl | cases hk
   | some b' =>
    obtain ⟨_, _, eb, _, _, hr⟩ := hi.obj j b' hdl
    obtain ⟨v', _, _, gb⟩ := hr o d h
    exact gb.off va
 have lb : HQ P B w0 (HN.app m u) w' (g'.settle i b xs.length) := by
  refine ⟨fa.below, fa.size, fun b' wa => ?_, fun b' wa => ?_, fun j b' hj => ?_, fun j j' b' e1 e2 => ?_, fun j o d hm hn => ?_, fun j e hm => ?_, base.tinj, base.itr.to (fun _ _ _ e => e) fun j b1 s p _ _ _ e1 e2 e3 => ?_⟩
  rotate_right
  ·have cb : b1 ≠ b := fun e' => e3 i (e' ▸ hb)
   refine ⟨rfl, rfl, by simp only [Gh.settle]; rw [if_neg cb]; exact e2, fun i' h' => ?_⟩
   simp only [Gh.settle] at h'
   split at h'
   ·cases h'
   ·exact e3 i' h'
  ·simp only [Gh.settle]
   have : b < w'.heap.size := (QF.1 a).1
   rw [if_neg O]; exact fa.gz b' wa
  ·simp only [Gh.settle]; rw [if_neg O]; exact fa.old b' wa
  ·simp only [Gh.settle] at hj
   split at hj
   ·cases hj
   ·rename_i ga
    obtain ⟨p, q, eb, T', hh, r⟩ := base.obj j b' hj
    have cb : b' ≠ b := fun e => ga (fa.inj j i b (e ▸ hj) hb)
    refine ⟨p, by simp only [Gh.settle]; rw [if_neg cb]; exact q, eb, T', hh, fun o d hm => ?_⟩
    obtain ⟨v', r1, r2, r3⟩ := r o d hm
    exact ⟨v', r1, r2, db r3 (bb j o d hm)⟩
  ·simp only [Gh.settle] at e1 e2
   split at e1
   ·cases e1
   ·split at e2
    ·cases e2
    ·exact fa.inj j j' b' e1 e2
  ·by_cases jb : j = i
   ·subst jb; rw [y o] at hm; cases hm
   ·simp only [Gh.settle, if_neg jb] at hn
    exact base.kind j o d hm hn
  ·obtain ⟨b1, n, c, sz, na, t1, t2, t3, t4, t5, t6, t7, t8, t9, xa⟩ := base.tok j e hm
   have cb : b1 ≠ b := fun e' => xa i (e' ▸ hb)
   refine ⟨b1, n, c, sz, na, t1, t2, t3, t4, t5, t6, t7, t8, by simp only [Gh.settle]; rw [if_neg cb]; exact t9, fun i' h' => ?_⟩
   simp only [Gh.settle] at h'
   split at h'
   ·cases h'
   ·exact xa i' h'
 have fb : ∀ (j : Nat), j < xs.length → ∃ v, cur[j]? = some v ∧ v.oneCell' = true ∧ ∃ x, xs[j]? = some x ∧ Rep w' g' x v := by
  intro j hj
  obtain ⟨v', r1, r2, r3⟩ := ua j xs[j] (ha j _ (Qc hj))
  exact ⟨v', r1, r2, _, Qc hj, r3⟩
 have ka : xs.length ≤ cur.size := by
  rcases Zu xs.length with h | h
  ·omega
  ·obtain ⟨v', r1, _⟩ := fb (xs.length - 1) O
   have := (QF.1 r1).1
   omega
 have la : ∀ x ∈ xs, x.calm = true := fun x hx => (ib x hx).1
 have ya : flat xs = xs := tH fun x hx => (ib x hx).2
 have ra : AZ w' (g'.settle i b xs.length) (flat xs) (cur.toList.take xs.length) := by
  rw [ya]
  refine ⟨by simp; omega, fun v hv => ?_, fun j x v hx hv => ?_⟩
  ·obtain ⟨j, hj, rfl⟩ := QW hv
   have ta : j < xs.length := Zj hj (Zg _ _)
   obtain ⟨v', r1, r2, _⟩ := fb j ta
   have : (cur.toList.take xs.length)[j]? = some v' := by rw [QK ta]; simpa using r1
   rw [Qc hj] at this
   rw [QG this]; exact r2
  ·have ta : j < xs.length := (Qq.1 hx).1
   obtain ⟨v', r1, r2, x', pa, r3⟩ := fb j ta
   rw [hx] at pa; obtain rfl := QG pa
   have : (cur.toList.take xs.length)[j]? = some v' := by rw [QK ta]; simpa using r1
   rw [hv] at this; obtain rfl := QG this
   exact r3.calm_to (la x (Qr hx)) (fun _ _ => rfl) t
 refine ⟨_, g'.settle i b xs.length, rfl, lb, ⟨ma.cell, fun b' => QR (ma.G b') (t b'), fun j b' hj => ?_, ma.G0, ma.tb, ma.size, fun j b' hj => by (simp only [Gh.settle] at hj; split at hj; (· cases hj); exact ma.dln j b' hj), ma.tbn, ma.unt⟩, ?_, fun j hf hn => ?_⟩
 ·simp only [Gh.settle]
  rw [if_neg (fun e => by rw [e, va] at hj; cases hj)]; exact ma.dl j b' hj
 ·refine aH (sz := 1) (cur := cur) (vs := cur.toList.take xs.length) a rfl qa (fun d hd => by rw [(ib d hd).2]; rfl) ra (fun j v hv => ?_) (by simp [Gh.settle]) (fun h => absurd rfl h) la
  have hj : j < xs.length := Zj (Qq.1 hv).1 (Zg _ _)
  rw [QK hj] at hv
  simpa using hv
 ·obtain ⟨k1, k2, k3⟩ := oa j hf hn
  refine ⟨fun o => ?_, ?_, k3⟩
  ·cases hx : HN.app m u j o with
   | none => rfl
   | some x => exact absurd (k1 o) (by rw [sa j o x hx]; simp)
  ·simp only [Gh.settle]
   split
   ·rfl
   ·exact k2
end
end Go.Vd
namespace Go.Vd
open Go.Proofs Go.RowKit
def aNe:=y0 f322 [] []
def P1:=y1 f294 5 [] []
def aNg:=y0 f294 [] [(5,P1)]
def P2:=y1 f242 3 [] []
def aNn:=y0 f242 [] [(3,P2)]
def aNO:=y0 f174 [] []
def aOx:=y0 f107 [] []
abbrev Kq(F:List D->Option D)(n:Nat):=(Ac F).ok Qf n
def Ba{P:Program}:HD.ok P (λ_=>none):=λf q h=>Xc
def Ej(c:Int):Bool:=decide (97<=c∧c<=122)||decide (65<=c∧c<=90)||decide (48<=c∧c<=57)||decide (c=45)||decide (c=46)||decide (c=95)||decide (192<=c∧c<=55295)
def aHp:List D->Option D
 |[.int .i32 c]=>some (.bool (Ej c))
 |_=>none
def aUt:Kq aHp 322:=by
 refine AO (S:=λ_=>none) Ba (Aj func322:Fn Qf 322 35 aNe [.t 2]) (λds r h=>?_) (λds r h=>?_)
 ·unfold aHp at h;split at h
  ·simp
  ·cases h
 ·unfold aHp at h;split at h
  ·rename_i c;simp only[Qb]at h;subst h;unfold aNe;simp only[↓C2,HH,simprocAttr]
   repeat' (first|(refine aG (λh=>?_) (λh=>?_)<;>try (exfalso;omega))|(simp only[↓C2,HE,simprocAttr, *]))
   all_goals (rw[D.bool.injEq,Bool.eq_iff_iff];simp[Ej];try omega)
  ·cases h
theorem H9{x:Int}(u:-9223372036854775808<=x)(y:x<9223372036854775808):IntKind.i64.wrap x=x:=IntWalk.i64_in _ ⟨u,O⟩
def wJ{j:Nat}(h:j<4611686018427387904):IntKind.i64.wrap ((j:Int)+1)=((j+1:Nat):Int):=H9 O O
def nJ{j:Nat}:(0:Int)<=(j:Int):=O
abbrev Bs:=List UInt8
def H6(s:Bs)(i:Nat):Nat:=(s.getD i 0).toNat
theorem Py(s:Bs)(i:Nat):H6 s i<256:=UInt8.toNat_lt _
def EA(s:Bs)(i:Nat):Bool:=decide (i<s.length)&&decide (128<=H6 s i)&&decide (H6 s i<192)
def Aq:List (FuncId×Il)->HD
 |[],_=>none
 |(k,q)::r,f=>if f=k then some q else Aq r f
def By{P:Program}{l:List (FuncId×Il)}(h:HD.ok P (Aq l)):∃S:HD,HD.ok P S∧∀f q,Aq l f=some q->S f=some q:=⟨_,h,λ_ _ e=>e⟩
def Ad{P:Program}:HD.ok P (Aq []):=λf q h=>Xc
def Aa{P:Program}{k:FuncId}{q:Il}{r:List (FuncId×Il)}(h:q.ok P k)(i:HD.ok P (Aq r)):HD.ok P (Aq ((k,q)::r)):=λf m e=>by
 simp only[Aq]at e;split at e
 ·simp_all
 ·exact i f m e
def Ea(s:Bs)(i:Nat):Int×Nat:=
 let b:=H6 s i
 if b<128 then(b,1)
 else if 192<=b∧b<224∧EA s (i+1)=true∧128<=64*((b:Int)-192)+(H6 s (i+1)-128)then(64*((b:Int)-192)+(H6 s (i+1)-128),2)
 else if 224<=b∧b<240∧EA s (i+1)=true∧EA s (i+2)=true∧2048<=4096*((b:Int)-224)+64*(H6 s (i+1)-128)+(H6 s (i+2)-128)∧
   (4096*((b:Int)-224)+64*(H6 s (i+1)-128)+(H6 s (i+2)-128)<55296∨57343<4096*((b:Int)-224)+64*(H6 s (i+1)-128)+(H6 s (i+2)-128))then
  (4096*((b:Int)-224)+64*(H6 s (i+1)-128)+(H6 s (i+2)-128),3)
 else if 240<=b∧b<248∧EA s (i+1)=true∧EA s (i+2)=true∧EA s (i+3)=true∧65536<=262144*((b:Int)-240)+4096*(H6 s (i+1)-128)+64*(H6 s (i+2)-128)+(H6 s (i+3)-128)∧
   262144*((b:Int)-240)+4096*(H6 s (i+1)-128)+64*(H6 s (i+2)-128)+(H6 s (i+3)-128)<=1114111 then
  (262144*((b:Int)-240)+4096*(H6 s (i+1)-128)+64*(H6 s (i+2)-128)+(H6 s (i+3)-128),4)
 else(-1,1)
theorem E5{s:Bs}{i:Nat}:EA s i=true↔i<s.length∧128<=H6 s i∧H6 s i<192:=by simp[EA,and_assoc]
def OI(s:Bs)(i:Nat):((ByteArray.mk s.toArray).get! i).toNat=H6 s i:=by
 have:(ByteArray.mk s.toArray).get! i=s.toArray[i]!:=rfl;rw[this];unfold H6;by_cases h:i<s.length
 ·simp[h]
 ·simp[h];rfl
def aIq(s:Bs):(ByteArray.mk s.toArray).size=s.length:=XV
def aEl(s:Bs)(i:Nat)(hi:i<s.length):(Utf8.decode ⟨s.toArray⟩ i).2=(Ea s i).2∧Ej ((Utf8.decode ⟨s.toArray⟩ i).1:Nat)=Ej (Ea s i).1:=by
 have w:=Py s i;have u:=Py s (i+1);have v:=Py s (i+2);have y:=Py s (i+3);have q:(decide (i+1<s.length)&&(H6 s (i+1) / 64==2))=EA s (i+1):=by
  grind [EA]
 have f:(decide (i+2<s.length)&&(H6 s (i+2) / 64==2))=EA s (i+2):=by
  grind [EA]
 have k:(decide (i+3<s.length)&&(H6 s (i+3) / 64==2))=EA s (i+3):=by
  grind [EA]
 have c1:=@E5 s (i+1);have c2:=@E5 s (i+2);have t:=@E5 s (i+3);unfold Utf8.decode Ea;simp only[OI,aIq,Q8,q,f,k];generalize EA s (i+1)=e at *;generalize EA s (i+2)=d at *;generalize EA s (i+3)=n at *;generalize H6 s i=a at *;generalize H6 s (i+1)=r at *;generalize H6 s (i+2)=p at *;generalize H6 s (i+3)=g at *;clear q f k;have x:Ej ((Utf8.runeError:Nat):Int)=Ej (-1):=V
 have z:∀c:Nat,Utf8.valid (c:Int)=true↔(c<55296∨(57344<=c∧c<=1114111)):=by
  intro c;simp[Utf8.valid];omega
 have j:(a / 32==6)=decide (192<=a∧a<224):=Ys
 have o:(a / 16==14)=decide (224<=a∧a<240):=Ys
 have m:(a / 8==30)=decide (240<=a∧a<248):=Ys
 simp only[j,o,m,Q3,decide_eq_true_eq,z,ge_iff_le];clear j o m z;cases e<;>cases d<;>cases n<;>simp only[QS,and_false,false_and,if_false,and_true,true_and,false_iff,true_iff]at c1 c2 t ⊢
 all_goals (repeat' split)<;>first|exact⟨rfl,x⟩|exact⟨rfl,rfl⟩|(exfalso;omega)|(refine⟨rfl,?_⟩;congr 1;omega)
def aI6(s:Bs)(i:Nat)(hi:i<s.length):1<=(Ea s i).2∧i+(Ea s i).2<=s.length:=by
 grind [Ea,E5]
def DM(s:Bs):Nat->Nat->Nat->Int
 |0,_,n=>if 12<n then 5 else 0
 |f+1,p,n=>if p<s.length then(if Ej (Ea s p).1=true then DM s f (p+(Ea s p).2) (n+1)else 4)else if 12<n then 5 else 0
def Fp(s:Bs):Int:=if s=[]∨s=[46]∨s=[46,46]∨s=[45]then 4 else DM s s.length 0 0
def aHq:List D->Option D
 |[.str s]=>if s.length<=1000000 then some (.int .i64 (Fp s))else none
 |_=>none
def aJe{S:HD}{ns i:Id}{s:Bs}{e:Int}{Q:Ex->St->Prop}(q:s.length<=1000000)(a:S 322=some (Ac aHp))
  (r:∀v,e=4->v.s 2= .int .i64 4->Q .ret v) (t:∀v (n:Nat),(if 12<n then(5:Int)else 0)=e->v.s 3= .int .i64 (n:Int)->Q (.exit 0) v):
  ∀(f p n:Nat) v g,s.length<=p+f->p<=s.length->n<=p->DM s f p n=e->v.s 21= .itp i->v.m i 1=some (.it s p)->v.s 3= .int .i64 (n:Int)->A9 S ns P1 Q v g:=by
 intro f;induction f with
 |zero=>
  intro p n v g k y w c b j o;refine Af P1.eq_1 ?_;have:¬(p<s.length):=O
  simp only[↓C2,HH,HZ,simprocAttr,j,b,this];exact t _ n c Yg
 |succ f ih=>
  intro p n v g k y w c b j o;refine Af P1.eq_1 ?_;unfold DM at c;by_cases d:p<s.length
  ·rw[if_pos d]at c;obtain⟨n1,n2⟩:=aI6 s p d;obtain⟨u,x⟩:=aEl s p d;rw[←u]at c n1 n2;rw[←x]at c;have hG:aHp [.int .i32 ((Utf8.decode ⟨s.toArray⟩ p).1:Nat)]=some (.bool (Ej ((Utf8.decode ⟨s.toArray⟩ p).1:Nat))):=rfl;have z:IntKind.i64.wrap ((n:Int)+1)=((n+1:Nat):Int):=H9 O O;cases ho:Ej ((Utf8.decode ⟨s.toArray⟩ p).1:Nat)with
   |true=>
    rw[if_pos ho]at c;simp only[↓C2,HE,simprocAttr,j,b,o,d,Ab a,hG,ho,z];exact ih _ _ _ _ O O O c b Yh rfl
   |false=>
    rw[if_neg (by rw[ho];simp)]at c;simp only[↓C2,HE,simprocAttr,j,b,d,Ab a,hG,ho];exact r _ c.symm rfl
  ·rw[if_neg d]at c;simp only[↓C2,HH,HZ,simprocAttr,j,b,d];exact t _ n c Yg
def aUu:Kq aHq 294:=by
 obtain⟨S,g,hl⟩:=By (Aa aUt Ad);have a:=hl 322 _ rfl;clear hl;refine AO (S:=S) g (Aj func294:Fn Qf 294 32 aNg [.t 2]) (λds r h=>?_) (λds r h=>?_)
 ·unfold aHq at h;split at h
  ·simp
  ·cases h
 ·unfold aHq at h;split at h
  ·rename_i s;split at h
   ·rename_i q;simp only[Qb]at h;subst h;unfold aNg Fp;by_cases j:s=[]∨s=[46]∨s=[46,46]∨s=[45]
    ·rw[if_pos j];rcases j with rfl|rfl|rfl|rfl<;>simp only[↓C2,HE,simprocAttr,Qn,show((45:UInt8)=46)=False by decide,and_false,and_self]
    ·rw[if_neg j];obtain⟨a1,o,z,i⟩:s≠[]∧s≠[46]∧s≠[46,46]∧s≠[45]:=by simp only[not_or]at j;exact j
     have f:(s=[])=False:=eq_false a1;have b:(s=[46])=False:=eq_false o;have d:(s=[46,46])=False:=eq_false z;have c:(s=[45])=False:=eq_false i;simp only[↓C2,HH,HZ,simprocAttr,f,b,d,c];refine aJe (e:=DM s s.length 0 0) q a (λv u y=>?_) (λv n u y=>?_) s.length 0 0 _ _ O O O rfl rfl Yh rfl
     ·simp only[↓C2,HE,y,u]
     ·rw[←u];have c1:((12:Int)<(n:Int))=(12<n):=by simp only[eq_iff_iff];omega
      simp only[↓C2,HH,simprocAttr,y,c1];refine aG (λh=>?_) (λh=>?_)<;>simp only[↓C2,HE,simprocAttr,h]
   ·cases h
  ·cases h
end Go.Vd
namespace Go.Vd
open Go.RowKit
def splitC(q:UInt8):Bs->List Bs
 |[]=>[[]]
 |c::r=>if c=q then []::splitC q r else match splitC q r with
  |h::t=>(c::h)::t
  |[]=>[[c]]
theorem E6{q:UInt8}:∀s,splitC q s≠[]
 |[]=>by simp[splitC]
 |c::r=>by
  unfold splitC;split
  ·simp
  ·split<;>simp
def split_word{q:UInt8}{w:Bs}(h:q∉w):∀s,splitC q (w++q::s)=w::splitC q s:=by
 induction w with
 |nil=>intro s;simp[splitC]
 |cons c r ih=>
  intro s;simp only[Zm,not_or]at h;simp only[Zd,splitC];rw[if_neg (λe=>h.1 e.symm),ih h.2]
def split_one{q:UInt8}{w:Bs}(h:q∉w):splitC q w=[w]:=by
 induction w with
 |nil=>rfl
 |cons c r ih=>
  simp only[Zm,not_or]at h;simp only[splitC];rw[if_neg (λe=>h.1 e.symm),ih h.2]
def Gw(m:HF)(c e:Nat)(nl:Bool)(t:Id):Prop:=nl=true∨∃j,t=[j]∧j<c∧m t 0=some (.tok (e+1))
def Gw.grow{m:HF}{c e c' x:Nat}{nl:Bool}{t:Id}{xs:List D}(h:Gw m c e nl t)(d:c<=c'):Mf (m.put [c'] 0 [.tok x]) e (.slice nl t xs):=by
 rcases h with h|⟨j,rfl,u,y⟩
 ·exact .inl h
 ·refine .inr ⟨?_,U⟩;rw[aA Xb];exact y
theorem Gw.new{m:HF}{c e c':Nat}{nl:Bool}{t:Id}{xs:List D}(d:c'<c):Gw (HN.app m (Bm e [c'] (.slice nl t xs))) c e false [c']:=by
 refine .inr ⟨c',rfl,d,?_⟩;cases nl<;>simp[Bm,HN.app,BV]
def Gw.more{m:HF}{c c' e:Nat}{nl:Bool}{t:Id}(h:Gw m c e nl t)(d:c<=c'):Gw m c' e nl t:=by
 rcases h with h|⟨j,u,y,o⟩
 ·exact .inl h
 ·exact .inr ⟨j,u,O,o⟩
def Gw.put{m:HF}{c e c' o:Nat}{nl:Bool}{t:Id}{ds:List D}(h:Gw m c e nl t)(d:c<=c':=by omega):Gw (m.put [c'] o ds) c e nl t:=by
 rcases h with h|⟨j,rfl,u,y⟩
 ·exact .inl h
 ·refine .inr ⟨j,rfl,u,?_⟩;rw[aA Xb];exact y
def Hf:List D->Option (List Bs)
 |[]=>some []
 | .str s::r=>(Hf r).map (s::·)
 |_=>none
def FS:∀{xs:List D} {l:List Bs},Hf xs=some l->xs=l.map .str
 |[],l,h=>by simp only[Hf,Qb]at h;subst h;rfl
 |x::r,l,h=>by
  unfold Hf at h;split at h
  ·rename_i b;cases b
  ·rename_i s k b;simp only[Qn]at b;obtain⟨rfl,rfl⟩:=b;rw[Ql]at h;obtain⟨f,u,rfl⟩:=h;rw[FS u];rfl
  ·cases h
theorem He:∀l:List Bs,Hf (l.map .str)=some l
 |[]=>rfl
 |i::r=>by simp only[Q0,Hf];rw[He r];rfl
def cV:∀l:List Bs,(l.map D.str).all V5=true
 |[]=>rfl
 |w::r=>by
  show(V5 (.str w)&&_)=true;rw[cV r];rfl
end Go.Vd
namespace Go.Proofs
open Go.Shelf Go.RowKit Go.Lib
variable{P:Program}{ρ:Ren}
def Gn{c:UInt8}{r:List UInt8}:∀{w:List UInt8},c∉w->Lib.indexByte (w++c::r) c=w.length
 |[],_=>by simp[Lib.indexByte]
 |b::w,h=>by
  simp only[Zm,not_or]at h;have ih:=Gn (r:=r) h.2;have f:(b==c)=false:=beq_eq_false_iff_ne.2 (λe=>h.1 e.symm);have u:((w.length:Int)==-1)=false:=beq_eq_false_iff_ne.2 O;rw[Zd,Lib.indexByte,f,ih,u];simp
def splitK_eq(q:UInt8):∀(n:Nat)(s:List UInt8),s.length<=n->Lib.splitK [q] 0 (s.count q) s=Go.Vd.splitC q s:=by
 intro n;induction n with
 |zero=>intro s h;obtain rfl:s=[]:=Zo.1 O;rfl
 |succ n ih=>
  intro s h;by_cases j:q∈s
  ·obtain⟨w,r,rfl,k⟩:=List.eq_append_cons_of_mem j;have d:(w++q::r).count q=r.count q+1:=by rw[List.count_append,Zf k];simp
   have hi:Lib.index (w++q::r) [q]=w.length:=by rw[Lib.index_one];exact Gn k
   have u:¬((w.length:Int)==-1)=true:=λe=>by have:=beq_iff_eq.1 e;omega
   rw[d,Lib.splitK,hi,if_neg u,Go.Vd.split_word k,Qj];have m:(w++q::r).take (w.length+0)=w:=U
   have z:(w++q::r).drop (w.length+[q].length)=r:=by
    simp_all
   rw[m,z,ih r (by simp at h;omega)]
  ·rw[Zf j,Go.Vd.split_one j];rfl
set_option maxHeartbeats 1000000 in
def split_space(q:UInt8)(L:Lays.n146 P ρ)(b:(P.info? (ρ.t 9)).map (λi=>(i.zero,i.size,i.bytes))=some (some (.string ByteArray.empty),1,16))(s:ByteArray)(w:World)(k:s.size<4294967281):
  Calls P (ρ.f 146) #[.string s,.string ⟨#[q]⟩] w λe w'=>
   e= .returned (.slice (some ⟨w.heap.size,0,none⟩) (Lib.countB s ⟨#[q]⟩+1) (Lib.countB s ⟨#[q]⟩+1))∧w'=w.alloc (.cells ((Lib.splitB ⟨#[q]⟩ 0 (Lib.countB s ⟨#[q]⟩) s).map Value.string).toArray (ρ.t 9)):=by
 have u:1<=(⟨#[q]⟩:ByteArray).size:=QA 1;have sa:=Lib.countB_le ⟨#[q]⟩ u s.size s (QA _);have r:=Lib.splitB_all ⟨#[q]⟩ u 0 _ s rfl;have c:=Any.strings_genSplit_core {L with} b s ⟨#[q]⟩ 0 (-1) (Lib.countB s ⟨#[q]⟩+1) w k u (Qx _)
  (λx cc _=>(Any.strings_Index_one {L with} x q _).mono λe w' ⟨y,p⟩=>⟨by rw[y,←Lib.index_one],p⟩)
  ((Any.strings_Count_one {L with} s q w).mono λe w' ⟨y,p⟩=>⟨by rw[y];show _=Ending.returned (Value.int .i64 ((Lib.count s.data.toList [q]:Nat):Int));rw[Lib.count_one];rfl,p⟩)
  V V (by rw[if_pos V];omega)
 rw[Zv,r]at c;have n:Lib.cellsOf (Lib.splitB ⟨#[q]⟩ 0 (Lib.countB s ⟨#[q]⟩) s) (Lib.countB s ⟨#[q]⟩+1)=((Lib.splitB ⟨#[q]⟩ 0 (Lib.countB s ⟨#[q]⟩) s).map Value.string).toArray:=by rw[←r];exact Lib.cellsOf_full _
 rw[n]at c;have v:=L.t3;have z:=L.t9;have g:=L.t31;have o:=L.a3;have a9:=L.a9;have j:=L.a31;have m:=L.z3;have v3:=L.v3;have z9:=L.z9;have v9:=L.v9;have d:=L.z31;have h:=L.v31;have a:∀args w,(callFunc (ρ.f 221) args).run P w= .ok (.enter (ρ.f 221) args) w:=enters_of L.f221 Z rfl
 go_enter L.f146,Body.n146_ntmps ρ
 go_wp2_with (go_at_fn (ρ.f 221);refine c.mono ?_;rintro e w' ⟨rfl,p⟩;rw[p])
 go_ret
 exact Y6
end Go.Proofs
namespace Go.Vd
open Go.RowKit Go.Proofs
def D5:List D->Option D
 |[.str s,.str [q]]=>if s.length<=1000000 then some (.slice false [] ((splitC q s).map .str))else none
 |_=>none
def CO{q:UInt8}:∀s:Bs,(splitC q s).length<=s.length+1
 |[]=>by simp[splitC]
 |c::r=>by
  have ih:=CO (q:=q) r;unfold splitC;split
  ·simp;omega
  ·grind
def aBL {P:Program} {ρ:Go.Shelf.Ren} (L:Go.Proofs.Lays.n146 P ρ) (b:(P.info? (ρ.t 9)).map (fun i=>(i.zero,i.size,i.bytes))=some (some (.string ByteArray.empty),1,16)) (p:∃fn,P.funcs[ρ.f 146]?=some fn∧fn.body.isSome=true∧(fn.name== "runtime.NumGoroutine")=false):(Ac D5).ok P (ρ.f 146):=by
 refine⟨p,λds m m' fr _=>rfl,?_⟩;intro B w0 w m g fr ds vs r u hi ia hl da y;simp only[Ac]at y;split at y
 ·rw[Ql]at y;obtain⟨r',hr,y⟩:=y;simp only[Qs]at y;obtain⟨rfl,rfl⟩:=y
  match ds,vs,hl with
  |[d,d1],[v,v1],_=>
   have h0:=da 0 d v rfl rfl;have k:=da 1 d1 v1 rfl rfl;have o:∃s,d= .str s:=by
    cases d<;>first|exact⟨_,rfl⟩|(exfalso;simp[D5,D.un]at hr;done)
   obtain⟨s,rfl⟩:=o;have h:∃q,d1= .str [q]:=by
    cases d1 with
    |str z=>
     simp only[Q0,QV,D.un,D5]at hr;split at hr
     ·simp_all
     ·cases hr
    |_=>exfalso;simp[D5,D.un]at hr
   obtain⟨q,rfl⟩:=h;simp only[Q0,QV,D.un,D5]at hr;split at hr
   ·rename_i hc;simp only[Qb]at hr;subst hr;rw[h0.str_inv,k.str_inv];have a:Lib.countB ⟨s.toArray⟩ ⟨#[q]⟩=s.count q:=by
     show Lib.count s [q]=_;exact Lib.count_one q s
    have c:(Lib.splitB ⟨#[q]⟩ 0 (s.count q) ⟨s.toArray⟩).map (·.data.toList)=splitC q s:=by
     rw[Lib.splitB_data];exact Go.Proofs.splitK_eq q s.length s (QA _)
    have ca:(splitC q s).length=s.count q+1:=by
     rw[←c,Qy,←a];exact Lib.splitB_all ⟨#[q]⟩ (QA 1) 0 _ _ rfl
    refine(Go.Proofs.split_space q L b ⟨s.toArray⟩ w (by show s.length<_;omega)).mono ?_;rintro ev w' ⟨rfl,rfl⟩;have hb:Below w.heap.size w (w.alloc (.cells ((Lib.splitB ⟨#[q]⟩ 0 (Lib.countB ⟨s.toArray⟩ ⟨#[q]⟩) ⟨s.toArray⟩).map Value.string).toArray (ρ.t 9))):=(Below.refl _ _).alloc (QA _) _;refine⟨_,g.over w _,rfl,hi.over hb,H5.over hi.gz hb,aIH (e:=ρ.t 9) (n:=s.count q+1) hi hb (cV _) (by rw[Qy,ca]) ?_ U,λi hf _=>hf⟩;have ma:=CO (q:=q) s;have ea:((splitC q s).map D.str).map (λd=>Value.string ⟨(rD d).toArray⟩)=(Lib.splitB ⟨#[q]⟩ 0 (s.count q) ⟨s.toArray⟩).map Value.string:=by
     rw[←c,QJ,QJ];refine QD λx _=>?_
     rfl
    rw[ea,a];have j:((Lib.splitB ⟨#[q]⟩ 0 (s.count q) ⟨s.toArray⟩).map Value.string).length=s.count q+1:=by
     rw[←ca,←c];simp
    refine⟨by rw[j];omega,.inr ⟨w.heap.size,s.count q+1,_,rfl,QA _,heap_alloc_new w _,QA _,?_,?_,?_⟩⟩
    ·rw[ca]at ma;have:maxLen=9223372036854775807:=rfl;omega
    ·rw[List.size_toArray,j];omega
    ·rw[Q9 (by rw[j];omega)]
   ·cases hr
  |[],_,_=>simp[D5]at hr
  |[_],_,_=>simp[D5]at hr
  |_::_::_::_,_,_=>simp[D5]at hr
 ·cases y
end Go.Vd
namespace Go.Vd
open Go.Proofs Go.RowKit
def Gq:Bool->List Bs->Option Bool
 |w,[]=>some w
 |w,p::r=>if Fp p=4 then none else Gq (w||decide (Fp p=5)) r
def wI(w:Bool):Int:=if w=true then 5 else 0
def Lm(l:List Bs):Int:=match Gq false l with
 |none=>4
 |some w=>if w=true then 5 else if 6<l.length then 24 else 0
def okL(l:List Bs):Prop:=l.length<=1000001∧∀p∈l,p.length<=1000000
theorem Pj(s:Bs):Fp s=4∨Fp s=5∨Fp s=0:=by
 have:∀f p n,DM s f p n=4∨DM s f p n=5∨DM s f p n=0:=by
  intro f;induction f with
  |zero=>intro p n;unfold DM;split<;>simp
  |succ f ih=>
   intro p n;unfold DM;split
   ·grind
   ·split<;>simp
 unfold Fp;split
 ·simp
 ·exact this _ _ _
open Classical in
def aHr:List D->Option D
 |[.slice _ _ xs]=>match Hf xs with
  |some l=>if okL l then some (.int .i64 (Lm l))else none
  |none=>none
 |_=>none
def aJf{S:HD}{ns:Id}{l:List Bs}{nl:Bool}{t:Id}{e:Option Bool}{Q:Ex->St->Prop}(f:okL l)(a:S 294=some (Ac aHq))
  (r:∀v,e=none->v.s 2= .int .i64 4->Q .ret v) (ga:∀v w,e=some w->v.s 3= .int .i64 (wI w)->v.s 0= .slice nl t (l.map .str)->Q (.exit 0) v):
  ∀(n k:Nat)(w:Bool) v g,n=l.length-k->k<=l.length->Gq w (l.drop k)=e->v.s 8= .int .i64 (k:Int)->v.s 7= .int .i64 (l.length:Int)->v.s 6= .slice nl t (l.map .str)->v.s 0= .slice nl t (l.map .str)->v.s 3= .int .i64 (wI w)->A9 S ns P2 Q v g:=by
 intro n;induction n with
 |zero=>
  intro k w v g x m c j h7 h6 b o;refine Af P2.eq_1 ?_;have:¬((k:Int)<l.length):=O
  simp only[↓C2,HH,HZ,reduceIte,Qe,j,h7,this];rw[List.drop_eq_nil_of_le O]at c;exact ga _ w c.symm Yg (by simp only[↓C2,reduceIte,Qd,b])
 |succ n ih=>
  intro k w v g x m c j h7 h6 b o;refine Af P2.eq_1 ?_;have y:k<l.length:=O
  have d:((k:Int)<l.length):=O
  have i:(0:Int)<=(k:Int):=O
  have p:(l.map D.str)[(k:Int).toNat]?=some (.str (l[k])):=by simp[y]
  have q:=f.1;have u:IntKind.i64.wrap ((k:Int)+1)=((k+1:Nat):Int):=H9 O O;have z:aHq [.str l[k]]=some (.int .i64 (Fp l[k])):=if_pos (f.2 _ (Ze y));rw[Q4 y]at c;simp only[Gq]at c;rcases Pj l[k]with h|h|h
  ·rw[if_pos h]at c;rw[h]at z;simp only[↓C2,HE,simprocAttr,j,h7,h6,d,i,p,Ab a,z];exact r _ c.symm rfl
  ·rw[if_neg O,h]at c;rw[h]at z;have c1:((5:Int)=4)=False:=by simp
   simp only[↓C2,HE,simprocAttr,j,h7,h6,d,i,p,Ab a,z,c1,u];exact ih (k+1) true _ _ O O XO rfl h7 h6 b rfl
  ·rw[if_neg O,h]at c;rw[h]at z;have c1:((0:Int)=4)=False:=by simp
   have c2:((0:Int)=5)=False:=U
   simp only[↓C2,HE,simprocAttr,j,h7,h6,d,i,p,Ab a,z,c1,c2,u];exact ih (k+1) w _ _ O O XO rfl h7 h6 b o
def aUv:Kq aHr 242:=by
 obtain⟨S,g,hl⟩:=By (Aa aUu Ad);have a:=hl 294 _ rfl;clear hl;refine AO (S:=S) g (Aj func242:Fn Qf 242 27 aNn [.t 2]) (λds r h=>?_) (λds r h=>?_)
 ·unfold aHr at h;split at h
  ·simp
  ·cases h
 ·unfold aHr at h;split at h
  ·rename_i nl t xs;split at h
   ·rename_i l hl;obtain rfl:=FS hl;split at h
    ·rename_i f;simp only[Qb]at h;subst h;unfold aNn Lm;simp only[↓C2,HH,simprocAttr,Qy];have q:=f.1;refine aJf (nl:=nl) (t:=t) (e:=Gq false l) f a (λv u y=>?_) (λv w u y o=>?_) l.length 0 false _ _ O O rfl rfl rfl rfl rfl rfl
     ·simp only[↓C2,HE,y,u]
     ·have c1:((6:Int)<(l.length:Int))=(6<l.length):=by simp only[eq_iff_iff];omega
      have c2:((5:Int)=0)=False:=U
      have c3:((0:Int)=0)=True:=U
      cases w<;>simp only[wI,reduceIte,QS]at y<;>simp only[↓C2,HE,simprocAttr,u,y,o,Qy,c1,c2];refine aG (λh=>?_) (λh=>?_)<;>simp only[↓C2,HE,simprocAttr,h,y,u]
    ·cases h
   ·cases h
  ·cases h
def Ay(s:Bs):Int:=if 64<s.length then 5 else Lm (splitC 47 s)
def lN{s:Bs}(h:s.length<=1000000):okL (splitC 47 s):=by
 have:∀(s:Bs) w,w∈splitC 47 s->w.length<=s.length:=by
  intro s;induction s with
  |nil=>intro w k;simp[splitC]at k;simp[k]
  |cons c r ih=>
   intro w k;unfold splitC at k;split at k
   ·grind
   ·grind
 have y:=CO (q:=47) s;exact⟨O,λp g=>by have:=this s p g;omega⟩
end Go.Vd
namespace Go.Proofs
open Go.Shelf
def aN:Go.Shelf.Ren:=⟨λ|146=>42|221=>95|268=>162|138=>163|143=>164|195=>234|197=>235|218=>236|219=>237|260=>286|217=>287|225=>288|224=>289|267=>290|266=>319|314=>320|n=>n,λ|9=>9|31=>23|3=>3|4=>4|0=>0|105=>303|21=>21|5=>5|46=>109|119=>368|139=>371|138=>370|146=>269|51=>268|n=>n,λ|1=>0|3=>1|4=>2|n=>n⟩
def aS:Go.Proofs.Lays.n146 Qf aN:={
 mixed:=Z
 f138:=func163.trans (congrArg some Z)
 f143:=func164.trans (congrArg some Z)
 f146:=func42.trans (congrArg some Z)
 f195:=func234.trans (congrArg some Z)
 f197:=func235.trans (congrArg some Z)
 f217:=func287.trans (congrArg some Z)
 f218:=func236.trans (congrArg some Z)
 f219:=func237.trans (congrArg some Z)
 f221:=func95.trans (congrArg some Z)
 f224:=func289.trans (congrArg some Z)
 f225:=func288.trans (congrArg some Z)
 f260:=func286.trans (congrArg some Z)
 f266:=func319.trans (congrArg some Z)
 f267:=func290.trans (congrArg some Z)
 f268:=func162.trans (congrArg some Z)
 f314:=func320.trans (congrArg some Z)
 t0:=underlying0
 a0:=isAgg0
 z0:=sizeOf0
 v0:=zeroValue0
 t3:=underlying3
 a3:=isAgg3
 z3:=sizeOf3
 v3:=zeroValue3
 t4:=underlying4
 a4:=isAgg4
 z4:=sizeOf4
 v4:=zeroValue4
 t5:=underlying5
 a5:=isAgg5
 z5:=sizeOf5
 v5:=zeroValue5
 t9:=underlying9
 a9:=isAgg9
 z9:=sizeOf9
 v9:=zeroValue9
 t21:=underlying21
 a21:=isAgg21
 z21:=sizeOf21
 v21:=zeroValue21
 t31:=underlying23
 a31:=isAgg23
 z31:=sizeOf23
 v31:=zeroValue23
 t46:=underlying109
 a46:=isAgg109
 z46:=sizeOf109
 v46:=zeroValue109
 t51:=underlying268
 a51:=isAgg268
 z51:=sizeOf268
 v51:=zeroValue268
 t105:=underlying303
 a105:=isAgg303
 z105:=sizeOf303
 v105:=zeroValue303
 t119:=underlying368
 a119:=isAgg368
 z119:=sizeOf368
 t138:=underlying370
 a138:=isAgg370
 z138:=sizeOf370
 v138:=zeroValue370
 t139:=underlying371
 a139:=isAgg371
 z139:=sizeOf371
 v139:=zeroValue371
 t146:=underlying269
 a146:=isAgg269
 z146:=sizeOf269
 v146:=zeroValue269
 g1:=Z
 g3:=Z
 g4:=Z}
end Go.Proofs
namespace Go.Vd
open Go.Proofs Go.RowKit
def aI1:Kq D5 42:=aBL aS Z ⟨_,func42,Z,Z⟩
open Classical in
def aHu:List D->Option D
 |[.str s]=>if s.length<=1000000 then some (.tup [if Ay s=0 then .slice false [] ((splitC 47 s).map .str)else .slice true [] [],.int .i64 (Ay s)])else none
 |_=>none
def aLz{l:List Bs}{nl:Bool}{t:Id}(h:okL l):aHr [.slice nl t (l.map .str)]=some (.int .i64 (Lm l)):=by
 grind [aHr,He]
def aUG:Kq aHu 174:=by
 obtain⟨S,g,hl⟩:=By (Aa aI1 (Aa aUv Ad));have p:=hl 42 _ rfl;have a:=hl 242 _ rfl;clear hl;refine AO (S:=S) g (Aj func174:Fn Qf 174 17 aNO [.t 2,.t 3]) (λds r h=>?_) (λds r h=>?_)
 ·unfold aHu at h;split at h
  ·simp
  ·cases h
 ·unfold aHu at h;split at h
  ·rename_i s;split at h
   ·rename_i j;simp only[Qb]at h;subst h;unfold aNO Ay;have b:((64:Int)<(s.length:Int))=(64<s.length):=by simp only[eq_iff_iff];omega
    have y:((5:Int)=0)=False:=U
    have z:D5 [.str s,.str [47]]=some (.slice false [] ((splitC 47 s).map .str)):=if_pos j;have q:=aLz (nl:=false) (t:=[]) (lN j);have d:((splitC 47 s).map D.str).all D.calm=true:=by simp[Qt];intros;rfl
    by_cases c:64<s.length
    ·simp only[↓C2,HE,simprocAttr,b,c,y]
    ·simp only[↓C2,HE,simprocAttr,b,c,Ab p,Ab a,z,q];refine aG (λh=>?_) (λh=>?_)<;>simp only[↓C2,HE,simprocAttr,h,c]
   ·cases h
  ·cases h
def kL:List D->Option D
 |[.str s]=>if s.length<=1000000 then some (.int .i64 (Ay s))else none
 |_=>none
def sA:Kq kL 107:=by
 obtain⟨S,g,hl⟩:=By (Aa aUG Ad);have a:=hl 174 _ rfl;clear hl;refine AO (S:=S) g (Aj func107:Fn Qf 107 11 aOx [.t 2]) (λds r h=>?_) (λds r h=>?_)
 ·unfold kL at h;split at h
  ·simp
  ·cases h
 ·unfold kL at h;split at h
  ·rename_i s;split at h
   ·rename_i j;simp only[Qb]at h;subst h;have z:aHu [.str s]=some (.tup [if Ay s=0 then .slice false [] ((splitC 47 s).map .str)else .slice true [] [],.int .i64 (Ay s)]):=by
     simp only[aHu,if_pos j]
    unfold aOx;simp only[↓C2,HE,simprocAttr,Ab a,z]
   ·cases h
  ·cases h
def aOt:=y0 f161 [] []
def aNN:=y0 f54 [] []
def aNB:=y0 f109 [] []
def aOy:=y0 f106 [] []
def aNP:=y0 f173 [] []
def aNE:=y0 f105 [] []
def A7(s t:Bs):Bool:=decide (s.take t.length=t)
def fQ{s t:Bs}(h:A7 s t=true):t.length<=s.length:=by
 grind [A7]
def Bo(s z:Bs):Bool:=if z=[]then decide (s≠[])else A7 s z&&A7 (s.drop z.length) [47]
def BA(s z:Bs):Bool:=decide (s=z)||Bo s z
def Di(s z:Bs):Bs:=if z=[]then s else if A7 s z=true then(if A7 (s.drop z.length) [47]=true then(s.drop z.length).drop 1 else s.drop z.length)else []
def aBa:List D->Option D
 |[.str s,.str t]=>some (.bool (A7 s t))
 |_=>none
def aMj:Kq aBa 105:=by
 refine AO (S:=λ_=>none) Ba (Aj func105:Fn Qf 105 18 aNE [.t 4]) (λds r h=>?_) (λds r h=>?_)
 ·unfold aBa at h;split at h
  ·simp
  ·cases h
 ·unfold aBa at h;split at h
  ·rename_i s t;simp only[Qb]at h;subst h;unfold aNE;have c1:((t.length:Int)<=(s.length:Int))=(t.length<=s.length):=by simp only[eq_iff_iff];omega
   have c2:((0:Int)<=(t.length:Int))=True:=eq_true O;by_cases hl:t.length<=s.length
   ·simp only[↓C2,HE,simprocAttr,c1,c2,hl,Qj,Qw,QB,and_self];simp[A7]
   ·simp only[↓C2,HE,simprocAttr,c1,hl];have:A7 s t=false:=by rw[Bool.eq_false_iff];intro h;exact hl (fQ h)
    simp[this]
  ·cases h
def aLD:List D->Option D
 |[.str s,.str t]=>some (.tup [.str (if A7 s t=true then s.drop t.length else s),.bool (A7 s t)])
 |_=>none
def aUH:Kq aLD 173:=by
 obtain⟨S,g,hl⟩:=By (Aa aMj Ad);have a:=hl 105 _ rfl;clear hl;refine AO (S:=S) g (Aj func173:Fn Qf 173 15 aNP [.t 4,.t 5]) (λds r h=>?_) (λds r h=>?_)
 ·unfold aLD at h;split at h
  ·simp
  ·cases h
 ·unfold aLD at h;split at h
  ·rename_i s t;simp only[Qb]at h;subst h;unfold aNP;have c1:((t.length:Int)<=(s.length:Int))=(t.length<=s.length):=by simp only[eq_iff_iff];omega
   have c2:((0:Int)<=(t.length:Int))=True:=eq_true O;have z:aBa [.str s,.str t]=some (.bool (A7 s t)):=rfl;cases hp:A7 s t with
   |false=>simp only[↓C2,HE,simprocAttr,Ab a,z,hp]
   |true=>
    have hl:=fQ hp;have e:(s.drop t.length).take (s.length-t.length)=s.drop t.length:=Q9 U;simp only[↓C2,HE,simprocAttr,Ab a,z,hp,c1,c2,hl,Qj,and_self,e]
  ·cases h
def aBe:List D->Option D
 |[.str s,.str t]=>some (.tup [.str (if A7 s t=true then s.drop t.length else s),.bool (A7 s t)])
 |_=>none
def aMr:Kq aBe 106:=by
 obtain⟨S,g,hl⟩:=By (Aa aUH Ad);have a:=hl 173 _ rfl;clear hl;refine AO (S:=S) g (Aj func106:Fn Qf 106 11 aOy [.t 4,.t 5]) (λds r h=>?_) (λds r h=>?_)
 ·unfold aBe at h;split at h
  ·simp
  ·cases h
 ·unfold aBe at h;split at h
  ·rename_i s t;simp only[Qb]at h;subst h;unfold aOy;have z:aLD [.str s,.str t]=some (.tup [.str (if A7 s t=true then s.drop t.length else s),.bool (A7 s t)]):=rfl;simp only[↓C2,HE,simprocAttr,Ab a,z]
  ·cases h
def aA9:List D->Option D
 |[.str s,.str t]=>some (.tup [.str (Di s t),.bool (Bo s t)])
 |_=>none
def aMh:Kq aA9 109:=by
 obtain⟨S,g,hl⟩:=By (Aa aMr Ad);have a:=hl 106 _ rfl;clear hl;refine AO (S:=S) g (Aj func109:Fn Qf 109 25 aNB [.t 4,.t 5]) (λds r h=>?_) (λds r h=>?_)
 ·unfold aA9 at h;split at h
  ·simp
  ·cases h
 ·unfold aA9 at h;split at h
  ·rename_i s t;simp only[Qb]at h;subst h;unfold aNB;have y:∀s t,aBe [.str s,.str t]=some (.tup [.str (if A7 s t=true then s.drop t.length else s),.bool (A7 s t)]):=λ_ _=>rfl
   unfold Di Bo;by_cases v:t=[]
   ·have z:(t=[])=True:=eq_true v;simp only[↓C2,HE,simprocAttr,z]
    try simp
   ·have z:(t=[])=False:=eq_false v;cases h1:A7 s t with
    |false=>simp only[↓C2,HE,simprocAttr,z,Ab a,y,h1,Za]
    |true=>
     cases h2:A7 (s.drop t.length) [47]with
     |false=>simp only[↓C2,HE,simprocAttr,z,Ab a,y,h1,h2]
     |true=>simp only[↓C2,HE,simprocAttr,z,Ab a,y,h1,h2,Qh,Qk]
  ·cases h
def aBb:List D->Option D
 |[.str s,.str t]=>some (.bool (Bo s t))
 |_=>none
def aMl:Kq aBb 54:=by
 obtain⟨S,g,hl⟩:=By (Aa aMh Ad);have a:=hl 109 _ rfl;clear hl;refine AO (S:=S) g (Aj func54:Fn Qf 54 14 aNN [.t 4]) (λds r h=>?_) (λds r h=>?_)
 ·unfold aBb at h;split at h
  ·simp
  ·cases h
 ·unfold aBb at h;split at h
  ·rename_i s t;simp only[Qb]at h;subst h;unfold aNN;have z:aA9 [.str s,.str t]=some (.tup [.str (Di s t),.bool (Bo s t)]):=rfl;simp only[↓C2,HE,simprocAttr,Ab a,z]
  ·cases h
def aBd:List D->Option D
 |[.str s,.str t]=>some (.bool (BA s t))
 |_=>none
def aMq:Kq aBd 161:=by
 obtain⟨S,g,hl⟩:=By (Aa aMl Ad);have d:=hl 54 _ rfl;clear hl;refine AO (S:=S) g (Aj func161:Fn Qf 161 13 aOt [.t 4]) (λds r h=>?_) (λds r h=>?_)
 ·unfold aBd at h;split at h
  ·simp
  ·cases h
 ·unfold aBd at h;split at h
  ·rename_i s t;simp only[Qb]at h;subst h;unfold aOt;have z:aBb [.str s,.str t]=some (.bool (Bo s t)):=rfl;unfold BA;by_cases j:s=t
   ·have lb:(s=t)=True:=eq_true j;simp only[↓C2,HE,simprocAttr,lb]
    try simp
   ·have lb:(s=t)=False:=eq_false j;simp only[↓C2,HE,simprocAttr,lb,Ab d,z]
    try simp
  ·cases h
def aXc:=y0 f264 [] []
def Rd:=y1 f108 4 [] []
def aOw:=y0 f108 [] [(4,Rd)]
def aWR:=y0 f53 [] []
def aOp:=y0 f199 [] []
def aNK:=y0 f239 [] []
def aW9:=y0 f291 [] []
def aNm:=y0 f292 [] []
def aJ1:=y1 f321 2 [] []
def aW7:=y0 f321 [] [(2,aJ1)]
def Rc:=y1 f168 4 [] []
def aOo:=y0 f168 [] [(4,Rc)]
def aWT:=y0 f41 [] []
def Re:=y1 f94 3 [] []
def aOz:=y0 f94 [] [(3,Re)]
def Rf:=y1 f93 3 [] []
def aOA:=y0 f93 [] [(3,Rf)]
def aOn:=y0 f307 [] []
def Rm:=y1 f254 7 [(9,[(6,2)])] []
def Rk:=y1 f254 4 [] [(7,Rm)]
def aO8:=y0 f254 [] [(4,Rk)]
def Lw(op:Int):Int:=if op=9∨op=14∨op=18 then 1 else if op=10∨op=15 then 2 else if op=11∨op=12 then 4 else if op=13∨op=16 then 8 else if op=17 then 16 else if 3<=op∧op<=8 then 32 else 0
def Ep(op:Int):Bool:=decide (4<=op∧op<=18∧op≠9∧op≠14∧op≠17)
def F27:List D->Option D
 |[.int .u8 op]=>some (.int .u8 (Lw op))
 |_=>none
def aYE:Kq F27 264:=by
 refine AO (S:=λ_=>none) Ba (Aj func264:Fn Qf 264 26 aXc [.t 2]) (λds r h=>?_) (λds r h=>?_)
 ·unfold F27 at h;split at h
  ·simp
  ·cases h
 ·unfold F27 at h;split at h
  ·rename_i op;simp only[Qb]at h;subst h;unfold aXc;simp only[↓C2,HH,simprocAttr]
   repeat' (first|(refine aG (λh=>?_) (λh=>?_)<;>try (exfalso;omega))|(simp only[↓C2,HE,simprocAttr,h]))
   all_goals (first|rfl|(rw[D.int.injEq];refine⟨rfl,?_⟩;unfold Lw;(repeat' split)<;>first|rfl|(exfalso;omega)))
  ·cases h
def El(c:Int):Bool:=decide (97<=c∧c<=122)||decide (48<=c∧c<=57)
def Nn(s:Bs):Nat->Nat->Bool
 |0,_=>true
 |f+1,p=>if p<s.length then El (H6 s p)&&Nn s f (p+1)else true
def BJ(s:Bs):Bool:=decide (1<=s.length)&&decide (s.length<=8)&&Nn s s.length 0
def aEm(s:Bs)(p:Nat)(g:p<s.length):El ((Utf8.decode ⟨s.toArray⟩ p).1:Nat)=El (H6 s p)∧(El (H6 s p)=true->(Utf8.decode ⟨s.toArray⟩ p).2=1):=by
 have w:=Py s p;by_cases h:H6 s p<128
 ·have:Utf8.decode ⟨s.toArray⟩ p=(H6 s p,1):=by
   unfold Utf8.decode;simp only[OI,Q8,h,if_true]
  rw[this];exact⟨rfl,λ_=>rfl⟩
 ·have u:El (H6 s p)=false:=by simp[El];omega
  have y:128<=(Utf8.decode ⟨s.toArray⟩ p).1:=by
   unfold Utf8.decode;simp only[OI,Q8,h,if_false]
   (repeat' split)<;>simp_all [Utf8.runeError]<;>omega
  refine⟨?_,λe=>by rw[u]at e;cases e⟩;rw[u];simp[El];omega
def aJm{S:HD}{ns i:Id}{s:Bs}{Q:Ex->St->Prop}{e:Bool}(r:∀v,e=false->v.s 2= .bool false->Q .ret v)(t:∀v,e=true->Q (.exit 0) v):
  ∀(f p:Nat) v g,s.length<=p+f->Nn s f p=e->v.s 13= .itp i->v.m i 1=some (.it s p)->A9 S ns Rd Q v g:=by
 intro f;induction f with
 |zero=>
  intro p v g k c b n;refine Af Rd.eq_1 ?_;have:¬(p<s.length):=O
  simp only[↓C2,HH,HZ,simprocAttr,n,b,this];exact t _ c.symm
 |succ f ih=>
  intro p v g k c b n;refine Af Rd.eq_1 ?_;unfold Nn at c;by_cases d:p<s.length
  ·rw[if_pos d]at c;obtain⟨u,z⟩:=aEm s p d;cases ho:El (H6 s p)with
   |true=>
    rw[ho,ZG]at c;have w:=z ho;rw[ho]at u;have q:(97<=((Utf8.decode ⟨s.toArray⟩ p).1:Int)∧((Utf8.decode ⟨s.toArray⟩ p).1:Int)<=122)∨(48<=((Utf8.decode ⟨s.toArray⟩ p).1:Int)∧((Utf8.decode ⟨s.toArray⟩ p).1:Int)<=57):=by simpa[El]using u
    have y:v.m.put i 1 [.it s (p+(Utf8.decode ⟨s.toArray⟩ p).2)] i 1=some (.it s (p+1)):=by rw[Es,if_pos ⟨rfl,rfl⟩,w]
    simp only[↓C2,HH,HZ,simprocAttr,n,b,d]
    repeat' (first|(refine aG (λh=>?_) (λh=>?_)<;>try (exfalso;omega))|(simp only[↓C2,HH,HZ,simprocAttr,h]))
    all_goals (first|exact ih _ _ _ O c b y|(exfalso;omega))
   |false=>
    rw[ho,Za]at c;rw[ho]at u;have q:¬((97<=((Utf8.decode ⟨s.toArray⟩ p).1:Int)∧((Utf8.decode ⟨s.toArray⟩ p).1:Int)<=122)∨(48<=((Utf8.decode ⟨s.toArray⟩ p).1:Int)∧((Utf8.decode ⟨s.toArray⟩ p).1:Int)<=57)):=by
     grind [El]
    simp only[↓C2,HH,HZ,simprocAttr,n,b,d]
    repeat' (first|(refine aG (λh=>?_) (λh=>?_)<;>try (exfalso;omega))|(simp only[↓C2,HH,HZ,simprocAttr,h]))
    all_goals (first|exact r _ c.symm rfl|(exfalso;omega))
  ·rw[if_neg d]at c;simp only[↓C2,HH,HZ,simprocAttr,n,b,d];exact t _ c.symm
def aLO:List D->Option D
 |[.str s]=>some (.bool (BJ s))
 |_=>none
def aUW:Kq aLO 108:=by
 refine AO (S:=λ_=>none) Ba (Aj func108:Fn Qf 108 31 aOw [.t 2]) (λds r h=>?_) (λds r h=>?_)
 ·unfold aLO at h;split at h
  ·simp
  ·cases h
 ·unfold aLO at h;split at h
  ·rename_i s;simp only[Qb]at h;subst h;unfold aOw;unfold BJ;have c1:((8:Int)<(s.length:Int))=(8<s.length):=by simp only[eq_iff_iff];omega
   by_cases b:s=[]
   ·subst b;simp only[↓C2,HE,simprocAttr]
    try simp
   ·have x:(s=[])=False:=eq_false b;have hl:1<=s.length:=by cases s with|nil=>exact absurd rfl b|cons _ _=>simp
    by_cases q:8<s.length
    ·simp only[↓C2,HE,simprocAttr,x,c1,q];simp;omega
    ·simp only[↓C2,HH,HZ,simprocAttr,x,c1,q];have m:(decide (1<=s.length)&&decide (s.length<=8)&&Nn s s.length 0)=Nn s s.length 0:=by simp;omega
     rw[m];refine aJm (e:=Nn s s.length 0) (λv u y=>?_) (λv u=>?_) s.length 0 _ _ O rfl rfl Yh
     ·simp only[↓C2,HE,u,y]
     ·simp only[↓C2,HE,reduceIte,Qe,u]
  ·cases h
theorem Ah{m:HF}{i a:Id}{o o':Nat}{ds:List D}:m.put i o ds a o'=if a=i∧o<=o'∧o'<o+ds.length then ds[o'-o]? else m a o':=rfl
def Av{m:HF}{i:Id}{o:Nat}:Ag m i o 0=some []:=rfl
def Aw{m:HF}{i:Id}{o n:Nat}:Ag m i o (n+1)=(m i o).bind λd=>(Ag m i (o+1) n).map (d::·):=by
 show(match m i o with|some d=>_|none=>none)=_;cases m i o<;>rfl
def BC{s:Nat->D}{m:HF}{k:Option Nat}{a:Nat}:CB [.cell k a] s m=bU m k (s a):=by
 simp only[CB,GD,RV.of];cases bU m k (s a)<;>rfl
def AW{m:HF}{n:Nat}{i:Id}{o:Nat}:bU m (some n) (.ptr i o)=(Ag m i o n).map .agg:=rfl
def Bx(k:Int)(name:Bs)(n:Int):Int:=
 if k=1 then(if n=0∧Ay name=0 then 0 else 2)else if k=2 then(if 1<=n∧n<=30∧Ay name=0 then 0 else 2)else if k=3 then(if n=0∧BJ name=true then 0 else 2)
 else if k=4∨k=5 then(if n=0∧name=[]then 0 else 2)else 22
def F98:List D->Option D
 |[.agg [.int .u8 k,.str name,.int .i64 n]]=>if name.length<=1000000 then some (.int .i64 (Bx k name n))else none
 |_=>none
def aI0:Kq F98 53:=by
 obtain⟨S,g,hl⟩:=By (Aa sA (Aa aUW Ad));have q:=hl 107 _ rfl;have d:=hl 108 _ rfl;clear hl;refine AO (S:=S) g (Aj func53:Fn Qf 53 53 aWR [.t 2]) (λds r h=>?_) (λds r h=>?_)
 ·unfold F98 at h;split at h
  ·simp
  ·cases h
 ·unfold F98 at h;split at h
  ·rename_i k name n;split at h
   ·rename_i s;simp only[Qb]at h;subst h;unfold aWR;have a:kL [.str name]=some (.int .i64 (Ay name)):=if_pos s;have c:aLO [.str name]=some (.bool (BJ name)):=rfl;unfold Bx;generalize Ay name=e at *;generalize BJ name=b at *;simp only[↓C2,HH,Iz,simprocAttr,Ah,Qx,Qw,Qh,Qk,Qm,Qg,QM,and_self]
    repeat' (first|(refine aG (λh=>?_) (λh=>?_)<;>try (exfalso;omega))|(simp only[↓C2,H1,simprocAttr,h,Ah,Ab q,Ab d,a,c]))
    all_goals (first|rfl|(rw[D.int.injEq];refine⟨rfl,?_⟩;(repeat' split)<;>first|rfl|(exfalso;simp_all;done)|(exfalso;simp_all;omega)))
   ·cases h
  ·cases h
def aHy:List D->Option D
 |[.str s]=>if s.length<=1000000 then some (.bool (BJ s))else none
 |_=>none
def aUS:Kq aHy 199:=by
 obtain⟨S,g,hl⟩:=By (Aa aI0 Ad);have a:=hl 53 _ rfl;clear hl;refine AO (S:=S) g (Aj func199:Fn Qf 199 7 aOp [.t 2]) (λds r h=>?_) (λds r h=>?_)
 ·unfold aHy at h;split at h
  ·simp
  ·cases h
 ·unfold aHy at h;split at h
  ·rename_i s;split at h
   ·rename_i d;simp only[Qb]at h;subst h;unfold aOp;have z:F98 [.agg [.int .u8 3,.str s,.int .i64 0]]=some (.int .i64 (Bx 3 s 0)):=if_pos d;have e:Bx 3 s 0=if BJ s=true then 0 else 2:=by simp[Bx]
    simp only[↓C2,HE,simprocAttr,F_,Qz,Qu,QE,QB,Zd,Q_,and_self,Cj,Ab a,z,e,Qh,Qk,Qm,and_self];cases BJ s<;>simp
   ·cases h
  ·cases h
def Gt(m:HF):List D->Option D
 |[]=>some .junk
 |[.ptr i 0]=>m i 0
 |_=>none
def aKa:List D->List Loc
 |[.ptr i 0]=>[(i,0)]
 |_=>[]
theorem SN{m m':HF}{caps:List D}(h:∀l∈aKa caps,m l.1 l.2=m' l.1 l.2):Gt m caps=Gt m' caps:=by
 unfold Gt;split
 ·rfl
 ·simp_all [aKa]
 ·rfl
def Lv(F:D->D->Option D):Il where
 rd:=λds _=>aKa ds.tail
 ex:=λds m _=>match ds with
  |x::caps=>(Gt m caps).bind λc=>(F c x).map λd=>(d,[])
  |[]=>none
def Ge:List (Option D)->Option (List Bool)
 |[]=>some []
 |some (.bool b)::r=>(Ge r).map (b::·)
 |_=>none
def Bc(l:List Bool):Int:=match l.findIdx? id with
 |some k=>k
 |none=>-1
def Hs(l:List Bool):decide (0<=Bc l)=l.any id:=by
 grind [Bc]
def tW:Option Nat->D->Bool
 |none,.agg _=>false
 |none,_=>true
 |some n,.agg cs=>cs.length==n
 |some _,_=>false
def fnR(ds:List D):List Loc:=match ds with
 |[_,.fn _ caps]=>aKa caps
 |_=>[]
def Gp(g:FuncId)(k:Option Nat)(F:D->D->Option D):Il where
 rd:=λds _=>fnR ds
 ex:=λds m _=>match ds with
  |[.slice _ _ xs,.fn g' caps]=>if g'=g∧xs.length<=1000000∧xs.all (tW k)=true then(Gt m caps).bind λc=>(Ge (xs.map (F c))).map λbs=>(.int .i64 (Bc bs),[])else none
  |_=>none
def kS(g:FuncId)(k:Option Nat)(F:D->D->Option D):Il where
 rd:=λds _=>fnR ds
 ex:=λds m _=>match ds with
  |[.slice _ _ xs,.fn g' caps]=>if g'=g∧xs.length<=1000000∧xs.all (tW k)=true then(Gt m caps).bind λc=>(Ge (xs.map (F c))).map λbs=>(.bool (bs.any id),[])else none
  |_=>none
def aJW(sz:Nat)(k:Option Nat):DC:=(.seq (.row [⟨some 9,.bin .lss (.t 8) (.t 7),[],none⟩]) (.seq (.cond (.t 9) .skip (.exit 0)) (.seq (.block 1 (.seq (.row [⟨some 10,.mv (.t 8),[],none⟩,⟨some 5,.mv (.t 10),[],none⟩]) (.seq (.row [⟨some 11,.mv (.t 1),[],none⟩,⟨some 12,.mv (.t 0),[],none⟩,⟨some 13,.mv (.t 5),[],none⟩,⟨some 14,.iaddr sz (.t 12) (.t 13),[],none⟩,⟨some 15,.load k (.t 14),[],none⟩,⟨some 16,.call (.t 11) [(.t 15)],[],none⟩]) (.cond (.t 16) (.seq (.row [⟨some 17,.mv (.t 5),[],none⟩,⟨some 4,.mv (.t 17),[],none⟩]) .ret) .skip)))) (.row [⟨some 18,.bin .add (.t 8) (.c (.int .i64 1)),[],none⟩,⟨some 8,.mv (.t 18),[],none⟩]))))
def dcI(sz:Nat)(k:Option Nat):DC:=(.seq (.row [⟨some 4,.mv (.c (.int .i64 0)),[],none⟩]) (.seq (.seq (.row [⟨some 6,.mv (.t 0),[],none⟩,⟨some 7,.len false (.t 6),[],none⟩,⟨some 8,.mv (.c (.int .i64 0)),[],none⟩]) (.block 0 (.loop (aJW sz k)))) (.seq (.row [⟨some 4,.mv (.c (.int .i64 (-1))),[],none⟩]) .ret)))
def aJX(f:FuncId):DC:=(.seq (.row [⟨some 4,.mv (.c (.bool false)),[],none⟩]) (.seq (.row [⟨some 5,.mv (.t 0),[],none⟩,⟨some 6,.mv (.t 1),[],none⟩,⟨some 7,.call (.c (.fn f [])) [(.t 5),(.t 6)],[],none⟩,⟨some 8,.bin .geq (.t 7) (.c (.int .i64 0)),[],none⟩,⟨some 4,.mv (.t 8),[],none⟩]) .ret))
def aQf(sz:Nat):Option Nat->Prop
 |none=>sz=1
 |some n=>sz=n
def aR4{sz:Nat}{k:Option Nat}(h:aQf sz k){x:D}(p:tW k x=true):x.cells.length=sz:=by
 cases k with
 |none=>cases x<;>first|(cases p;done)|exact h.symm
 |some n=>cases x<;>first|(cases p;done)|(simp only[tW,beq_iff_eq]at p;exact p.trans h.symm)
def aD9{m:HF}{k:Option Nat}{x:D}{K:D->HN->Prop}{t:Tag (m,K)}(p:tW k x=true):Sj k (.eptr x.cells) m K t=K x []:=by
 cases k with
 |none=>cases x<;>first|(cases p;done)|(simp only[Si,D.cells,QP,A4])
 |some n=>
  cases x<;>first|(cases p;done)|skip
  rename_i cs;simp only[tW,beq_iff_eq]at p;subst p;simp only[Po,D.cells,QA,U6,Zp]
def NY:∀{l:List (Option D)} {bs:List Bool},Ge l=some bs->l=bs.map λb=>some (.bool b)
 |[],bs,h=>by simp only[Ge,Qb]at h;subst h;rfl
 |x::r,bs,h=>by
  unfold Ge at h;split at h
  ·rename_i e;cases e
  ·rename_i b k e;cases e;rw[Ql]at h;obtain⟨f,u,rfl⟩:=h;rw[NY u];rfl
  ·cases h
def aVJ{S:HD}{ns:Id}{sz:Nat}{k:Option Nat}{g:FuncId}{F:D->D->Option D}{xs caps:List D}{c:D}{bs:List Bool}{nl:Bool}{t:Id}{m:HF}{Q:Ex->St->Prop}(ka:aQf sz k)(hg:S g=some (Lv F))(f:xs.length<=1000000)(y:xs.all (tW k)=true)
  (x:Gt m caps=some c) (ta:xs.map (F c)=bs.map λb=>some (.bool b))
  (pa:∀(j:Nat) v,v.m=m->bs.findIdx? id=some j->v.s 4= .int .i64 (j:Int)->Q .ret v) (ga:∀v,v.m=m->bs.findIdx? id=none->Q (.exit 0) v):
  ∀(n j:Nat) v tg,n=xs.length-j->j<=xs.length->(∀i,i<j->bs[i]?=some false)->v.m=m->v.s 8= .int .i64 (j:Int)->v.s 7= .int .i64 (xs.length:Int)->v.s 0= .slice nl t xs->v.s 1= .fn g caps->A9 S ns (aJW sz k) Q v tg:=by
 intro n;have r:bs.length=xs.length:=by simpa using (congrArg ZQ ta).symm
 induction n with
 |zero=>
  intro j v tg w hj ja hm h8 h7 o u;refine Af (aJW.eq_1 sz k) ?_;have:¬((j:Int)<xs.length):=O
  simp only[↓C2,HH,HZ,reduceIte,Qe,h8,h7,this];refine ga _ hm (Zl.2 λb wa=>?_);obtain⟨i,hi,rfl⟩:=QW wa;have:=ja i O;rw[Qc hi]at this;simpa using QG this
 |succ n ih=>
  intro j v tg w hj ja hm h8 h7 o u;refine Af (aJW.eq_1 sz k) ?_;have q:j<xs.length:=O
  have d:((j:Int)<xs.length):=O
  have a:=nJ (j:=j);have p:xs[j]?=some xs[j]:=Qc q;have he:tW k xs[j]=true:=Qt.1 y _ (Ze q);have ra:=aR4 ka he;have hw:=wJ (j:=j) O;obtain⟨ma,ia,da⟩:=v;simp only at hm h8 h7 o u;subst hm;have hF:F c xs[j]=some (.bool (bs[j]' O)):=by
   have e:=congrArg (·[j]?) ta;simp only[QN,p,QO,Qc (show j<bs.length by omega)]at e;exact QG e
  have z:∀fr,(Lv F).ex (xs[j]::caps) ia fr=some (.bool (bs[j]' O),[]):=by
   grind [Lv]
  simp only[↓C2,HH,HZ,simprocAttr,h8,h7,o,u,d,a,Qj,p,ra,aD9 he,AH hg,z];cases hbj:bs[j]' O with
  |true=>
   simp only[↓C2,HH,simprocAttr];refine pa j _ rfl ?_ rfl;rw[QT];refine⟨O,by simp[hbj],λi hi=>?_⟩;have:=ja i hi;rw[Qc O]at this;simp[QG this]
  |false=>
   simp only[↓C2,HH,simprocAttr,h8,hw];refine ih (j+1) _ _ O O (λi hi=>?_) rfl rfl h7 o u;rcases Nat.lt_or_eq_of_le (Nat.le_of_lt_succ hi)with hi|rfl
   ·exact ja i hi
   ·simp_all
def UH{ds:List D}{m m':HF}(h:∀l∈fnR ds,m l.1 l.2=m' l.1 l.2){x:D}{g:FuncId}{caps:List D}(e:ds=[x,.fn g caps]):Gt m caps=Gt m' caps:=by
 subst e;exact SN h
def OF{P:Program}{f g:FuncId}{sz:Nat}{k:Option Nat}{F:D->D->Option D}{N:Nat}(w:2<=N)(b:Fn P f N (dcI sz k) [.t 4])(e:aQf sz k)(a:(Lv F).ok P g):(Gp g k F).ok P f:=by
 have hS:HD.ok P (Aq [(g,Lv F)]):=Aa a Ad;have sg:Aq [(g,Lv F)] g=some (Lv F):=by simp[Aq]
 generalize Aq [(g,Lv F)]=S at hS sg;refine Ox hS b (λds m m' fr h=>?_) (λds m fr r u z _=>?_)
 ·simp only[Gp]at h ⊢;split
  ·rename_i nl t xs g' caps;rw[UH h rfl]
  ·rfl
 ·simp only[Gp]at z;split at z
  ·rename_i nl t xs g' caps;split at z
   ·rename_i d;obtain⟨rfl,hb,s⟩:=d;rw[QC]at z;obtain⟨c,p,z⟩:=z;rw[Ql]at z;obtain⟨bs,ta,z⟩:=z;simp only[Qs]at z;obtain⟨rfl,rfl⟩:=z;refine⟨w,?_⟩;unfold dcI;simp only[↓C2,HH,simprocAttr];refine aVJ (xs:=xs) (caps:=caps) (c:=c) (bs:=bs) (nl:=nl) (t:=t) (m:=m) e sg hb s p (NY ta) (λj v n q y=>?_) (λv n q=>?_) xs.length 0 _ _ O O U rfl rfl rfl rfl rfl
    ·simp only[↓C2,HH,HZ,y,Bc,q,n];exact λi o x h=>h
    ·simp only[↓C2,HH,HZ,reduceIte,Qe,Bc,q,n];exact λi o x h=>h
   ·cases z
  ·cases z
def uK{P:Program}{f h g:FuncId}{k:Option Nat}{F:D->D->Option D}{N:Nat}(q:2<=N)(b:Fn P f N (aJX h) [.t 4])(hi:(Gp g k F).ok P h):(kS g k F).ok P f:=by
 have s:HD.ok P (Aq [(h,Gp g k F)]):=Aa hi Ad;have a:Aq [(h,Gp g k F)] h=some (Gp g k F):=by simp[Aq]
 generalize Aq [(h,Gp g k F)]=S at s a;refine Ox s b (λds m m' fr h=>?_) (λds m fr r u z _=>?_)
 ·simp only[kS]at h ⊢;split
  ·rename_i nl t xs e caps;rw[UH h rfl]
  ·rfl
 ·simp only[kS]at z;split at z
  ·rename_i nl t xs e caps;split at z
   ·rename_i d;rw[QC]at z;obtain⟨c,p,z⟩:=z;rw[Ql]at z;obtain⟨bs,ta,z⟩:=z;simp only[Qs]at z;obtain⟨rfl,rfl⟩:=z;refine⟨q,?_⟩;have y:∀fr,(Gp g k F).ex [.slice nl t xs,.fn e caps] m fr=some (.int .i64 (Bc bs),[]):=by
     grind [Gp]
    unfold aJX;simp only[↓C2,HH,HZ,simprocAttr,AH a,y];exact⟨by rw[←Hs],λi o x h=>h⟩
   ·cases z
  ·cases z
def aOv:=y0 f248 [] []
def aOu:=y0 f249 [] []
def aPg:=y0 f187 [] []
def aPf:=y0 f188 [] []
def OT{S:HD}{P:Program}{f:FuncId}{N:Nat}{w:DC}{rs:List RV}{F:D->D->Option D}(g:HD.ok P S)(b:Fn P f N w rs)
  (e:∀x caps m fr c d,Gt m caps=some c->F c x=some d->(∀k i o,(k::fr)<:+i->m i o=none)->caps.length<=1->(caps.length+1<=N)∧w.wp S fr (Eo rs λn m'=>n=d∧∀i o y,m i o=some y->m' i o=some y) ⟨BQ (x::caps),m,0⟩):(Lv F).ok P f:=by
 refine Ox g b (λds m m' fr h=>?_) (λds m fr r u z j=>?_)
 ·grind [Lv,SN]
 ·simp only[Lv]at z;split at z
  ·rename_i x caps;rw[QC]at z;obtain⟨c,p,z⟩:=z;rw[Ql]at z;obtain⟨d,t,z⟩:=z;simp only[Qs]at z;obtain⟨rfl,rfl⟩:=z;have hl:caps.length<=1:=by
    unfold Gt at p;split at p
    ·simp
    ·simp
    ·cases p
   obtain⟨q,v⟩:=e x caps m fr c d p t j hl;exact⟨q,v⟩
  ·cases z
def SM{m:HF}{caps:List D}{p:Bs}(h:Gt m caps=some (.str p)):∃i,caps=[.ptr i 0]∧m i 0=some (.str p):=by
 unfold Gt at h;split at h
 ·cases h
 ·exact⟨_,rfl,h⟩
 ·cases h
def aA4:D->D->Option D
 | .str p,.agg [.str q,.int .u8 _]=>some (.bool (decide (q=p)))
 |_,_=>none
def aHh:D->D->Option D
 | .str p,.agg [.str q,.int .i64 _,.bool _]=>some (.bool (decide (q=p)))
 |_,_=>none
def aA7:D->D->Option D
 | .str p,.str q=>some (.bool (BA p q||BA q p))
 |_,_=>none
def aSc:(Lv aA4).ok Qf 292:=by
 refine OT (S:=λ_=>none) Ba (Aj func292:Fn Qf 292 9 aNm [.t 3]) (λx caps m fr c d f z j hl=>⟨O,?_⟩);unfold aA4 at z;split at z
 ·rename_i p q k;simp only[Qb]at z;subst z;obtain⟨i,rfl,n⟩:=SM f;have hi:i≠0::fr:=by rintro rfl;have:=j 0 (0::fr) 0 (Zq _);rw[n]at this;cases this
  unfold aNm;simp only[↓C2,HE,simprocAttr,n,hi,Ah,Qx,Qw,Qh,Qk,Qm,Qg,and_self];intro i o y h;split
  ·grind
  ·exact h
 ·cases z
def aSg:(Lv aHh).ok Qf 248:=by
 refine OT (S:=λ_=>none) Ba (Aj func248:Fn Qf 248 8 aOv [.t 3]) (λx caps m fr c d f z j hl=>⟨O,?_⟩);unfold aHh at z;split at z
 ·rename_i p q k b;simp only[Qb]at z;subst z;obtain⟨i,rfl,n⟩:=SM f;have hi:i≠0::fr:=by rintro rfl;have:=j 0 (0::fr) 0 (Zq _);rw[n]at this;cases this
  unfold aOv;simp only[↓C2,HE,simprocAttr,n,hi,Ah,Qx,Qw,Qh,Qk,Qm,Qg,and_self];intro i o y h;split
  ·grind
  ·exact h
 ·cases z
def aSf:(Lv aA7).ok Qf 249:=by
 obtain⟨S,g,hl⟩:=By (Aa aMq Ad);have a:=hl 161 _ rfl;clear hl;refine OT (S:=S) g (Aj func249:Fn Qf 249 12 aOu [.t 3]) (λx caps m fr c d f z j hl=>⟨O,?_⟩);unfold aA7 at z;split at z
 ·rename_i p q;simp only[Qb]at z;subst z;obtain⟨i,rfl,n⟩:=SM f;have k:∀p q,aBd [.str p,.str q]=some (.bool (BA p q)):=λ_ _=>rfl
  unfold aOu;cases h1:BA p q with
  |false=>simp only[↓C2,HE,simprocAttr,n,Ab a,k,h1];simp
  |true=>simp only[↓C2,HE,simprocAttr,n,Ab a,k,h1];simp
 ·cases z
def aWN:Fn Qf 247 19 (dcI 3 (some 3)) [.t 4]:=⟨f247,_,func247,rfl,Z,rfl,Z,Z⟩
def aM4:Fn Qf 181 19 (dcI 1 none) [.t 4]:=⟨f181,_,func181,rfl,Z,rfl,Z,Z⟩
def aWK:Fn Qf 293 19 (dcI 1 none) [.t 4]:=⟨f293,_,func293,rfl,Z,rfl,Z,Z⟩
def aM8:Fn Qf 118 9 (aJX 181) [.t 4]:=⟨f118,_,func118,rfl,Z,rfl,Z,Z⟩
def aWL:Fn Qf 240 9 (aJX 293) [.t 4]:=⟨f240,_,func240,rfl,Z,rfl,Z,Z⟩
def aRO:(Gp 292 (some 2) aA4).ok Qf 321:=OF O (Aj func321:Fn Qf 321 19 aW7 [.t 4]) rfl aSc
def aXj:(kS 292 (some 2) aA4).ok Qf 291:=uK O (Aj func291:Fn Qf 291 9 aW9 [.t 4]) aRO
def aRS:(Gp 248 (some 3) aHh).ok Qf 247:=OF O aWN rfl aSg
def aRR:(Gp 249 none aA7).ok Qf 181:=OF O aM4 rfl aSf
def aXl:(kS 249 none aA7).ok Qf 118:=uK O aM8 aRR
abbrev Rl:=Bs×Int
def rlD(r:Rl):D:= .agg [.str r.1,.int .u8 r.2]
def As(l:List Rl):List D:=l.map rlD
def rlT:D->Rl
 | .agg [.str q,.int .u8 k]=>(q,k)
 |_=>([],0)
def Bv(xs:List D):List Rl:=xs.map rlT
theorem A3(l:List Rl):Bv (As l)=l:=by
 simp only[Bv,As,QJ]
 conv=>rhs;rw[←ZB l]
 exact QD λr _=>rfl
def CK(l:List Rl)(j:Nat):Rl:=l.getD j ([],0)
theorem A1(l:List Rl):(As l).length=l.length:=Qy ..
def PS{l:List Rl}{j:Nat}(h:j<l.length):(As l)[j]?=some (rlD (CK l j)):=by
 grind [As,CK]
def LU(l:List Rl)(j:Nat):(As l).take j=As (l.take j):=(ZJ ..).symm
def aB7(l:List Rl):(As l).all (tW (some 2))=true:=by
 rw[Qt];intro x p;obtain⟨r,_,rfl⟩:=QZ.1 p;rfl
def Ud(l:List Rl):aF (As l) 2=2:=XB
def aBw(l:List Rl)(q:Bs):Bool:=l.any λr=>decide (r.1=q)
def GE(r:Rl)(l:List Rl):Int:=if r.1≠[]∧Ay r.1≠0 then Ay r.1 else if 63<r.2 then 2 else if aBw l r.1=true then 20 else 0
def Eh(l:List Rl):Nat->Nat->Int
 |0,_=>0
 |f+1,j=>if j<l.length then(if GE (CK l j) (l.take j)≠0 then GE (CK l j) (l.take j)else Eh l f (j+1))else 0
def Cg(l:List Rl):Int:=if 4<l.length then 24 else Eh l l.length 0
def Cw(l:List Rl):Prop:=∀r∈l,r.1.length<=1000000
def dZ{l:List Rl}(h:Cw l){j:Nat}(z:j<l.length):(CK l j).1.length<=1000000:=by
 have:CK l j=l[j]:=by simp[CK,Qc z]
 rw[this];exact h _ (Ze z)
def DD(bs:List Bool):Ge (bs.map λb=>some (.bool b))=some bs:=by
 induction bs with
 |nil=>rfl
 |cons b r ih=>simp only[Q0,Ge,ih,QO]
def aFs{l:List Rl}{nl:Bool}{t:Id}(hl:l.length<=1000000){q:Bs}(m:HF)(fr i:Id)(n:m i 0=some (.str q)):
  (kS 292 (some 2) aA4).ex [.slice nl t (As l),.fn 292 [.ptr i 0]] m fr=some (.bool (aBw l q),[]):=by
 have e:(As l).map (aA4 (.str q))=(l.map λr=>decide (r.1=q)).map λb=>some (.bool b):=by
  simp only[As,QJ];exact QD λr _=>rfl
 simp only[kS,A1,hl,aB7,and_self,if_true,Gt,n,Qi,e,DD,QO];simp only[aBw,ZN];rfl
open Classical in
def aHt:List D->Option D
 |[.agg [.str q,.int .u8 k],.slice _ _ xs]=>if xs=As (Bv xs)∧xs.length<=1000000∧q.length<=1000000 then some (.int .i64 (GE (q,k) (Bv xs)))else none
 |_=>none
def aUD:Kq aHt 239:=by
 obtain⟨S,g,hl⟩:=By (Aa sA (Aa aXj Ad));have n:=hl 107 _ rfl;have b:=hl 291 _ rfl;clear hl;refine AO (S:=S) g (Aj func239:Fn Qf 239 21 aNK [.t 4]) (λds r h=>?_) (λds r h=>?_)
 ·unfold aHt at h;split at h
  ·simp
  ·cases h
 ·unfold aHt at h;split at h
  ·rename_i q k nl t xs;split at h
   ·rename_i d;obtain⟨p,w,z⟩:=d;simp only[Qb]at h;subst h;generalize Bv xs=l at p;subst p;rw[A1]at w;have a:kL [.str q]=some (.int .i64 (Ay q)):=if_pos z;unfold aNK GE;generalize Ay q=e at *;simp only[↓C2,HH,Iz,simprocAttr,Ah,Qx,Qw,Qh,Qk,Qm,Qg,and_self]
    repeat' (first|(refine aG (λh=>?_) (λh=>?_)<;>try (exfalso;omega))|(simp only[↓C2,H1,simprocAttr,h,Ah,Ab n,a,AH b,aFs (q:=q) w]))
    all_goals (first|rfl|(rw[D.int.injEq];refine⟨rfl,?_⟩;(repeat' split)<;>first|rfl|(exfalso;simp_all;done)|(exfalso;simp_all;omega)))
   ·cases h
  ·cases h
open Classical in
def aLC{q:Bs}{k:Int}{nl:Bool}{t:Id}{l:List Rl}(hl:l.length<=1000000)(z:q.length<=1000000):aHt [.agg [.str q,.int .u8 k],.slice nl t (As l)]=some (.int .i64 (GE (q,k) l)):=by
 have h:As l=As (Bv (As l))∧(As l).length<=1000000∧q.length<=1000000:=⟨by rw[A3],by rw[A1];exact hl,z⟩;show(if _ then _ else _)=_;rw[if_pos h,A3]
def aJl{S:HD}{ns:Id}{l:List Rl}{nl:Bool}{t:Id}{Q:Ex->St->Prop}{e:Int}(a:S 239=some (Ac aHt))(x:l.length<=4)(y:Cw l)
  (w:∀v,e≠0->v.s 2= .int .i64 e->Q .ret v) (p:∀v,e=0->Q (.exit 0) v):
  ∀(f j:Nat) v g,l.length=j+f->Eh l f j=e->v.s 0= .slice nl t (As l)->v.s 9= .slice nl t (As l)->v.s 10= .int .i64 (l.length:Int)->v.s 11= .int .i64 (j:Int)->A9 S ns Rc Q v g:=by
 intro f;induction f with
 |zero=>
  intro j v g hf c o h9 m na;refine Af Rc.eq_1 ?_;have:¬((j:Int)<l.length):=O
  simp only[↓C2,HH,HZ,reduceIte,Qe,m,na,this];exact p _ c.symm
 |succ f ih=>
  intro j v g hf c o h9 m na;refine Af Rc.eq_1 ?_;unfold Eh at c;have z:j<l.length:=O
  rw[if_pos z]at c;have d:((j:Int)<l.length):=O
  have oa:=nJ (j:=j);have n:((j:Int)<=l.length):=O
  have hw:=wJ (j:=j) O;have ka:=PS z;have hq:=dZ y z;generalize i:CK l j=r at c ka hq;obtain⟨q,k⟩:=r;have b:(As l)[j]?=some (.agg [.str q,.int .u8 k]):=ka;have hF:=aLC (nl:=nl) (t:=[]) (l:=l.take j) (q:=q) (k:=k) Xb hq;generalize GE (q,k) (l.take j)=e' at c hF;obtain⟨ma,ia,u⟩:=v;simp only at o h9 m na;simp only[↓C2,H1,simprocAttr,o,h9,m,na,d,oa,n,Qj,b,A1,Ud,LU,Ab a,hF,Ah,Av,Aw,Qi,Qu,Qz,Qo,QB];refine A0 ?_;simp only[↓C2,HH,Iz,simprocAttr,LU,QB];refine aG (λh=>?_) (λh=>?_)
  ·rw[if_neg Xr]at c;simp only[↓C2,HH,Iz,simprocAttr,na,LU,QB,hw];exact ih (j+1) _ _ O c o h9 m rfl
  ·rw[if_pos h]at c;simp only[↓C2,HH,Iz,simprocAttr,LU,QB];exact w _ (c▸h) (by rw[←c];rfl)
open Classical in
def aA8:List D->Option D
 |[.slice _ _ xs]=>if xs=As (Bv xs)∧xs.length<=1000000∧Cw (Bv xs)then some (.int .i64 (Cg (Bv xs)))else none
 |_=>none
open Classical in
def W5{nl:Bool}{t:Id}{l:List Rl}(hl:l.length<=1000000)(g:Cw l):aA8 [.slice nl t (As l)]=some (.int .i64 (Cg l)):=by
 have h:As l=As (Bv (As l))∧(As l).length<=1000000∧Cw (Bv (As l)):=by rw[A3,A1];exact⟨rfl,hl,g⟩
 show(if _ then _ else _)=_;rw[if_pos h,A3]
open Classical in
theorem kI{ds:List D}{r:D}(h:aA8 ds=some r):∃nl t l,ds=[.slice nl t (As l)]∧l.length<=1000000∧Cw l∧r= .int .i64 (Cg l):=by
 unfold aA8 at h;split at h
 ·rename_i nl t xs;split at h
  ·rename_i d;obtain⟨u,y,o⟩:=d;simp only[Qb]at h;subst h;refine⟨nl,t,Bv xs,by rw[←u],?_,o,rfl⟩;rw[u,A1]at y;exact y
  ·cases h
 ·cases h
def eJ:Kq aA8 168:=by
 obtain⟨S,s,hl⟩:=By (Aa aUD Ad);have a:=hl 239 _ rfl;clear hl;refine AO (S:=S) s (Aj func168:Fn Qf 168 25 aOo [.t 2]) (λds r h=>?_) (λds r h=>?_)
 ·grind [kI]
 ·obtain⟨nl,t,l,rfl,hl,g,rfl⟩:=kI h;unfold aOo Cg;by_cases m:4<l.length
  ·have j:((4:Int)<l.length):=by omega
   simp only[↓C2,HE,simprocAttr,A1,j,m]
  ·have j:¬((4:Int)<l.length):=by omega
   simp only[↓C2,HH,HZ,simprocAttr,A1,j];refine aJl (l:=l) (nl:=nl) (t:=t) (e:=Eh l l.length 0) a O g (λv u y=>?_) (λv u=>?_) l.length 0 _ _ O rfl rfl rfl rfl rfl
   ·simp only[↓C2,HE,y];rw[if_neg m]
   ·simp only[↓C2,HE,reduceIte,Qe,u];rw[if_neg m]
def cE{k:IntKind}{a b:Int}:AP .andNot (.int k a) (.int k b)=some (.int k (bits .andNot k a b)):=Xn
def fR(a c:Nat):Bool:=Nat.beq (Zr c (255-a)) 0
def aYq{x:Nat}(h:x<256):IntKind.u8.wrap (x:Int)=x:=by
 simp only[IntKind.wrap,IntKind.signed,IntKind.bits,Za,QS,if_false];omega
def ST{a c:Nat}(r:a<256)(d:c<256):bits .andNot .u8 (c:Int) (a:Int)=((Zr c (255-a):Nat):Int):=by
 have u:(BitVec.ofInt 8 (c:Int)).toNat=c:=by rw[BitVec.toNat_ofInt];omega
 have y:(BitVec.ofInt 8 (a:Int)).toNat=a:=by rw[BitVec.toNat_ofInt];omega
 have o:(BitVec.ofInt 8 (c:Int)&&& ~~~ BitVec.ofInt 8 (a:Int)).toNat=Zr c (255-a):=by
  rw[BitVec.toNat_and,BitVec.toNat_not,u,y];rfl
 have j:Zr c (255-a)<=c:=Nat.and_le_left;show IntKind.u8.wrap ((BitVec.ofInt 8 (c:Int)&&& ~~~ BitVec.ofInt 8 (a:Int)).toNat:Int)=_;rw[o];generalize Zr c (255-a)=x at j;exact aYq O
structure RI (fr r:Id) (m0 m:HF) (l:List Bs) (j:Nat):Prop where
 row:∀i,i<l.length->m r i=some (.str (if i<j then l.getD i []else []))
 out:∀i o,¬fr<:+i->m i o=m0 i o
def RI.put{fr r:Id}{m0 m:HF}{l:List Bs}{j k o:Nat}{ds:List D}(h:RI fr r m0 m l j)(g:(k::fr)≠r):RI fr r m0 (m.put (k::fr) o ds) l j:=by
 refine⟨λi hi=>?_,λi o' w=>?_⟩
 ·rw[aA (λe=>g e.symm)];exact h.row i hi
 ·rw[aA (λe=>w Yn)];exact h.out i o' w
def RI.fill{fr r:Id}{m0 m:HF}{l:List Bs}{j:Nat}(h:RI fr r m0 m l j)(q:fr<:+r):RI fr r m0 (m.put r j [.str (l.getD j [])]) l (j+1):=by
 refine⟨λi hi=>?_,λi o' w=>?_⟩
 ·rw[Ah];by_cases e:i=j
  ·simp_all
  ·rw[if_neg Xb,h.row i hi];by_cases y:i<j
   ·rw[if_pos y,if_pos O]
   ·rw[if_neg y,if_neg O]
 ·rw[aA (λe=>w (by rw[e];exact q))];exact h.out i o' w
theorem RI.start{fr:Id}{m:HF}{l:List Bs}{k n:Nat}(w:n=l.length):RI fr (k::fr) m (m.put (k::fr) 0 (Q7 n (.str []))) l 0:=by
 subst w;refine⟨λi hi=>?_,λi o w=>aA (λe=>w Yn)⟩;rw[Ah,if_pos ⟨rfl,O,by simp;exact hi⟩,if_neg O];simp[hi]
def RI.fin{fr r:Id}{m0 m:HF}{l:List Bs}(h:RI fr r m0 m l l.length)(b:∀i o,fr<:+i->m0 i o=none):
  (∀(j:Nat) x,(l.map D.str)[j]?=some x->m r j=some x)∧∀i o x,m0 i o=some x->m i o=some x:=by
 refine⟨λj x p=>?_,λi o x p=>?_⟩
 ·have z:j<l.length:=by have:=(Qq.1 p).1;simpa using this
  rw[h.row j z,if_pos z];simp[z]at p;simp[z,p]
 ·rw[h.out i o (λk=>by rw[b i o k]at p;cases p)];exact p
def Vy(F:List D->Option (List Bs)):Il where
 rd:=λ_ _=>[]
 ex:=λds _ _=>(F ds).map λl=>(.slice false [] (l.map .str),[])
def rO{S:HD}{P:Program}{f:FuncId}{N:Nat}{w:DC}{rs:List RV}{F:List D->Option (List Bs)}(g:HD.ok P S)(hf:Fn P f N w rs)
  (c:∀ds l m fr,F ds=some l->(∀i o,fr<:+i->m i o=none)->ds.length<=N∧w.wp S fr (Eo rs λd m'=>∃i,d= .row i l.length∧fr<:+i∧RI fr i m m' l l.length) ⟨BQ ds,m,0⟩):(Vy F).ok P f:=by
 refine aIV g hf (λ_ _ _ _ _=>rfl) (λds m fr r u z j=>?_);simp only[Vy,Ql,Qs]at z;obtain⟨l,hl,rfl,rfl⟩:=z;obtain⟨q,y⟩:=c ds l m fr hl j;refine⟨q,U,l.map .str,rfl,?_,?_⟩
 ·intro x p;obtain⟨s,_,rfl⟩:=QZ.1 p;exact⟨rfl,rfl⟩
 ·refine M_ y (λe n h=>?_);obtain⟨a,d,t,i,b,k,v⟩:=h;exact⟨a,d,t,i,by simpa using b,k,(v.fin j).1,λi o x p=>(v.fin j).2 i o x p⟩
open Classical in
def aHA:List D->Option (List Bs)
 |[.slice _ _ xs]=>if xs=As (Bv xs)∧xs.length<=1000000 then some ((Bv xs).map (·.1))else none
 |_=>none
open Classical in
theorem aLP{nl:Bool}{t:Id}{l:List Rl}(hl:l.length<=1000000):aHA [.slice nl t (As l)]=some (l.map (·.1)):=by
 have h:As l=As (Bv (As l))∧(As l).length<=1000000:=by rw[A3,A1];exact⟨rfl,hl⟩
 show(if _ then _ else _)=_;rw[if_pos h,A3]
open Classical in
def aHz{ds:List D}{r:List Bs}(h:aHA ds=some r):∃nl t l,ds=[.slice nl t (As l)]∧l.length<=1000000∧r=l.map (·.1):=by
 unfold aHA at h;split at h
 ·rename_i nl t xs;split at h
  ·rename_i d;obtain⟨u,y⟩:=d;simp only[Qb]at h;subst h;refine⟨nl,t,Bv xs,by rw[←u],?_,rfl⟩;rw[u,A1]at y;exact y
  ·cases h
 ·cases h
def aJn{S:HD}{fr:Id}{l:List Rl}{nl:Bool}{t:Id}{m0:HF}{k:Nat}{Q:Ex->St->Prop}(q:l.length<=1000000)
  (p:∀v,v.s 3= .row (k::fr) l.length->RI fr (k::fr) m0 v.m (l.map (·.1)) l.length->Q (.exit 0) v):
  ∀(f j:Nat) v g,l.length=j+f->k<v.c->v.s 3= .row (k::fr) l.length->v.s 9= .slice nl t (As l)->v.s 10= .int .i64 (l.length:Int)->v.s 11= .int .i64 (j:Int)->RI fr (k::fr) m0 v.m (l.map (·.1)) j->A9 S fr Re Q v g:=by
 intro f;induction f with
 |zero=>
  intro j v g b d o h9 e na I;refine Af Re.eq_1 ?_;have:¬((j:Int)<l.length):=O
  simp only[↓C2,HH,HZ,reduceIte,Qe,e,na,this];exact p _ o X3
 |succ f ih=>
  intro j v g b d o h9 e na I;refine Af Re.eq_1 ?_;have u:j<l.length:=O
  have x:((j:Int)<l.length):=O
  have a:=nJ (j:=j);have hw:=wJ (j:=j) O;have i:(As l)[j]?=some (.agg [.str (CK l j).1,.int .u8 (CK l j).2]):=PS u;have hg:(l.map (·.1)).getD j []=(CK l j).1:=by simp[CK,Qc u]
  generalize CK l j=r at i hg;have w:((v.c+1+3)::fr=k::fr)=False:=eq_false Xb;have z:(k::fr=(v.c+1+3)::fr)=False:=eq_false Xb;have y:=I.row j XL;rw[if_neg O]at y;obtain⟨ma,n,da⟩:=v;simp only at o h9 e na d w z y I;simp only[↓C2,H1,reduceIte,Qd,Qe,o,h9,e,na,x,a,hw,Qj,i,z,y,QA,false_and,Ah,Av,Aw,QL,Qi,Qu,Qz,Qo];refine ih (j+1) _ _ O Xa o h9 e rfl ?_;rw[←hg];exact((I.put Xb).put Xb).fill (QI _ _)
def aUX:(Vy aHA).ok Qf 94:=by
 refine rO (S:=λ_=>none) Ba (Aj func94:Fn Qf 94 23 aOz [.t 2]) (λds r m fr h j=>?_);obtain⟨nl,t,l,rfl,hl,rfl⟩:=aHz h;refine⟨U,?_⟩;have z:((0:Int)<=(l.length:Int)):=O
 have d:((l.length:Int)*(((16:Nat):Int)+1)<=140737488355328)=True:=eq_true O;unfold aOz;simp only[↓C2,HH,Iz,reduceIte,Qd,Qe,z,d,A1,Qj,ZC,Qh,Qk,Qm,and_self];refine aJn (l:=l) (nl:=nl) (t:=t) (m0:=m) (k:=3) hl (λv u y=>?_) l.length 0 _ _ O Xa rfl rfl rfl rfl ?_
 ·simp only[↓C2,HH,reduceIte,Qd,Qe,u,Qy];exact⟨_,rfl,QI _ _,y⟩
 ·exact RI.start U
def Pn(s:Bs)(l:List Bs):Nat->Nat->Int->Int->Int
 |0,_,b,_=>b
 |f+1,j,b,n=>if n<((l.getD j []).length:Int)∧BA s (l.getD j [])=true then Pn s l f (j+1) j (l.getD j []).length else Pn s l f (j+1) b n
def IM(s:Bs)(l:List Bs):Int:=Pn s l l.length 0 (-1) (-1)
def aJo{S:HD}{ns:Id}{s:Bs}{l:List Bs}{nl:Bool}{t:Id}{Q:Ex->St->Prop}{e:Int}(a:S 161=some (Ac aBd))(q:l.length<=1000000)
  (ga:∀v,v.s 5= .int .i64 e->Q (.exit 0) v):
  ∀(f j:Nat)(b n:Int) v g,l.length=j+f->Pn s l f j b n=e->v.s 0= .str s->v.s 5= .int .i64 b->v.s 6= .int .i64 n->v.s 9= .slice nl t (l.map .str)->v.s 10= .int .i64 (l.length:Int)->v.s 11= .int .i64 (j:Int)->A9 S ns Rf Q v g:=by
 intro f;induction f with
 |zero=>
  intro j b n v g r c o h5 h6 x m na;refine Af Rf.eq_1 ?_;have:¬((j:Int)<l.length):=O
  simp only[↓C2,HH,HZ,reduceIte,Qe,m,na,this];exact ga _ (by rw[←c];exact h5)
 |succ f ih=>
  intro j b n v g r c o h5 h6 x m na;refine Af Rf.eq_1 ?_;unfold Pn at c;have z:j<l.length:=O
  have d:((j:Int)<l.length):=O
  have oa:=nJ (j:=j);have hw:=wJ (j:=j) O;have i:(l.map D.str)[j]?=some (.str (l.getD j [])):=by simp[z]
  generalize l.getD j []=p at i c;have k:aBd [.str s,.str p]=some (.bool (BA s p)):=rfl;obtain⟨ma,y,u⟩:=v;simp only at o h5 h6 x m na;by_cases w:n<(p.length:Int)
  ·cases hp:BA s p with
   |true=>
    rw[if_pos ⟨w,hp⟩]at c;simp only[↓C2,HE,simprocAttr,o,x,m,na,h6,d,oa,hw,Qj,i,Ab a,k,Qh,Qk,Qm,QP,w,hp];exact ih (j+1) _ _ _ _ O c o rfl rfl x m rfl
   |false=>
    rw[if_neg (by rw[hp];simp)]at c;simp only[↓C2,HE,simprocAttr,o,x,m,na,h6,d,oa,hw,Qj,i,Ab a,k,Qh,Qk,Qm,QP,w,hp];exact ih (j+1) _ _ _ _ O c o h5 h6 x m rfl
  ·rw[if_neg (λh=>w h.1)]at c;simp only[↓C2,HE,simprocAttr,x,m,na,h6,d,oa,hw,Qj,i,Qh,Qk,Qm,QP,w];exact ih (j+1) _ _ _ _ O c o h5 h6 x m rfl
def aBf:List D->Option D
 |[.str s,.slice _ _ xs]=>(Hf xs).bind λl=>if l.length<=1000000 then some (.int .i64 (IM s l))else none
 |_=>none
def aLQ{s:Bs}{nl:Bool}{t:Id}{l:List Bs}(hl:l.length<=1000000):aBf [.str s,.slice nl t (l.map .str)]=some (.int .i64 (IM s l)):=by
 grind [aBf,He]
def aUY:Kq aBf 93:=by
 obtain⟨S,g,hl⟩:=By (Aa aMq Ad);have a:=hl 161 _ rfl;clear hl;refine AO (S:=S) g (Aj func93:Fn Qf 93 30 aOA [.t 4]) (λds r h=>?_) (λds r h=>?_)
 ·unfold aBf at h;split at h
  ·simp
  ·cases h
 ·unfold aBf at h;split at h
  ·rename_i s nl t xs;rw[QC]at h;obtain⟨l,j,h⟩:=h;obtain rfl:=FS j;split at h
   ·rename_i hl;simp only[Qb]at h;subst h;unfold aOA;simp only[↓C2,HH,simprocAttr,Qy];refine aJo (s:=s) (l:=l) (nl:=nl) (t:=t) (e:=IM s l) a hl (λv u=>?_) l.length 0 _ _ _ _ O rfl rfl rfl rfl rfl rfl rfl;simp only[↓C2,HE,simprocAttr,u]
   ·cases h
  ·cases h
def DB(l:List Rl)(s:Bs):Int:=if IM s (l.map (·.1))<0 then 0 else(CK l (IM s (l.map (·.1))).toNat).2
def Sh(s:Bs)(l:List Bs):∀(f j:Nat)(b n:Int),l.length=j+f->b<l.length->Pn s l f j b n<l.length
 |0,j,b,n,hf,hb=>by simpa[Pn]using hb
 |f+1,j,b,n,hf,hb=>by
  unfold Pn;split
  ·exact Sh s l f (j+1) _ _ O O
  ·exact Sh s l f (j+1) _ _ O hb
def fE(s:Bs)(l:List Bs):IM s l<l.length:=Sh s l _ _ _ _ O O
open Classical in
def F95:List D->Option D
 |[.slice _ _ xs,.str s]=>if xs=As (Bv xs)∧xs.length<=1000000 then some (.int .u8 (DB (Bv xs) s))else none
 |_=>none
open Classical in
def qF{nl:Bool}{t:Id}{l:List Rl}{s:Bs}(hl:l.length<=1000000):F95 [.slice nl t (As l),.str s]=some (.int .u8 (DB l s)):=by
 have h:As l=As (Bv (As l))∧(As l).length<=1000000:=by rw[A3,A1];exact⟨rfl,hl⟩
 show(if _ then _ else _)=_;rw[if_pos h,A3]
open Classical in
theorem wN{ds:List D}{r:D}(h:F95 ds=some r):∃nl t l s,ds=[.slice nl t (As l),.str s]∧l.length<=1000000∧r= .int .u8 (DB l s):=by
 unfold F95 at h;split at h
 ·rename_i nl t xs s;split at h
  ·rename_i d;obtain⟨u,y⟩:=d;simp only[Qb]at h;subst h;refine⟨nl,t,Bv xs,s,by rw[←u],?_,rfl⟩;rw[u,A1]at y;exact y
  ·cases h
 ·cases h
def aQB:Kq F95 41:=by
 obtain⟨S,g,hl⟩:=By (Aa aUX (Aa aUY Ad));have c:=hl 94 _ rfl;have d:=hl 93 _ rfl;clear hl;refine AO (S:=S) g (Aj func41:Fn Qf 41 17 aWT [.t 4]) (λds r h=>?_) (λds r h=>?_)
 ·grind [wN]
 ·obtain⟨nl,t,l,s,rfl,hl,rfl⟩:=wN h;have b:∀m fr,(Vy aHA).ex [.slice nl t (As l)] m fr=some (.slice false [] ((l.map (·.1)).map .str),[]):=by
   grind [Vy,aLP]
  have a:aBf [.str s,.slice false [] ((l.map (·.1)).map .str)]=some (.int .i64 (IM s (l.map (·.1)))):=aLQ Xk;have f:((l.map (·.1)).map D.str).all D.calm=true:=X5
  have z:((l.map (·.1)).map D.str).map D.un=(l.map (·.1)).map D.str:=by rw[QJ];exact QD λ_ _=>rfl
  unfold aWT DB;have k:=fE s (l.map (·.1));rw[Qy]at k;generalize IM s (l.map (·.1))=i at a k;by_cases hi:i<0
  ·simp only[↓C2,HE,simprocAttr,AH c,b,Ab d,a,hi]
  ·obtain⟨j,rfl⟩:=QX (show 0<=i by omega);have u:j<l.length:=by omega
   have w:=nJ (j:=j);have o:(As l)[j]?=some (.agg [.str (CK l j).1,.int .u8 (CK l j).2]):=PS u;simp only[↓C2,HE,simprocAttr,AH c,b,Ab d,a,hi,w,Qj,o,Qh,Qk,Qm,and_self,QB,QE,QP]
def N_(l:List Rl)(s:Bs)(c:Int):Bool:=fR (DB l s).toNat c.toNat
def G8(l:List Rl):Prop:=∀r∈l,0<=r.2∧r.2<256
open Classical in
def aHx:List D->Option D
 |[.slice _ _ xs,.str s,.int .u8 k]=>if xs=As (Bv xs)∧xs.length<=1000000∧G8 (Bv xs)∧Cw (Bv xs)∧s.length<=1000000∧0<=k∧k<256 then some (.bool (N_ (Bv xs) s k))else none
 |_=>none
open Classical in
def aLM{nl:Bool}{t:Id}{l:List Rl}{s:Bs}{k:Int}(hl:l.length<=1000000)(d:G8 l)(g:Cw l)(j:s.length<=1000000)(b:0<=k)(u:k<256):aHx [.slice nl t (As l),.str s,.int .u8 k]=some (.bool (N_ l s k)):=by
 have h:As l=As (Bv (As l))∧(As l).length<=1000000∧G8 (Bv (As l))∧Cw (Bv (As l))∧s.length<=1000000∧0<=k∧k<256:=by rw[A3,A1];exact⟨rfl,hl,d,g,j,b,u⟩
 show(if _ then _ else _)=_;rw[if_pos h,A3]
open Classical in
theorem kK{ds:List D}{r:D}(h:aHx ds=some r):∃nl t l s k,ds=[.slice nl t (As l),.str s,.int .u8 k]∧l.length<=1000000∧G8 l∧Cw l∧s.length<=1000000∧0<=k∧k<256∧r= .bool (N_ l s k):=by
 unfold aHx at h;split at h
 ·rename_i nl t xs s k;split at h
  ·rename_i d;obtain⟨u,y,o,g,j,m,p⟩:=d;simp only[Qb]at h;subst h;refine⟨nl,t,Bv xs,s,k,by rw[←u],?_,o,g,j,m,p,rfl⟩;rw[u,A1]at y;exact y
  ·cases h
 ·cases h
def uQ{l:List Rl}{s:Bs}(d:G8 l):0<=DB l s∧DB l s<256:=by
 unfold DB;have k:=fE s (l.map (·.1));rw[Qy]at k;split
 ·omega
 ·rename_i h;have z:(IM s (l.map (·.1))).toNat<l.length:=by omega
  have:CK l (IM s (l.map (·.1))).toNat=l[(IM s (l.map (·.1))).toNat]:=by simp[CK,Qc z]
  rw[this];exact d _ (Ze z)
def aUR:Kq aHx 307:=by
 obtain⟨S,v,hl⟩:=By (Aa aQB Ad);have q:=hl 41 _ rfl;clear hl;refine AO (S:=S) v (Aj func307:Fn Qf 307 13 aOn [.t 6]) (λds r h=>?_) (λds r h=>?_)
 ·grind [kK]
 ·obtain⟨nl,t,l,s,k,rfl,hl,d,g,j,o,u,rfl⟩:=kK h;have m:=qF (nl:=nl) (t:=[]) (s:=s) hl;have f:=uQ (s:=s) d;have i:(As l).all D.calm=true:=by rw[Qt];intro x p;obtain⟨y,_,rfl⟩:=QZ.1 p;rfl
  have z:(As l).map D.un=As l:=YS
  unfold aOn N_;generalize DB l s=a at m f;obtain⟨a,rfl⟩:=QX f.1;obtain⟨k,rfl⟩:=QX o;have b:=ST (a:=a) (c:=k) O O;have n:decide (((Zr k (255-a):Nat):Int)=0)=fR a k:=by
   unfold fR;generalize Zr k (255-a)=x;cases x with
   |zero=>rfl
   |succ x=>simp[Nat.beq];omega
  simp only[↓C2,HE,simprocAttr,Ab q,m,cE,b,n,Qj]
def nR{m:HF}{e:Nat}{nl:Bool}{t:Id}{xs:List D}:Mf m e (.slice nl t xs)=(nl=true∨(m t 0=some (.tok (e+1))∧t≠[])):=rfl
def fT{e:Nat}{fr t:Id}{xs:List D}:Bm e fr (.slice false t xs)=[(t,0,[.tok 0]),(fr,0,[.tok (e+1)])]:=rfl
def Oq(l:List Rl):(As l).all D.calm=true:=X5
def VA(l:List Rl):(As l).map D.un=As l:=YS
def mF(a b:List Rl)(r:Rl):Bool:=fR (DB b r.1).toNat (DB a r.1).toNat
def E_(a b l:List Rl):Nat->Nat->Bool
 |0,_=>true
 |f+1,j=>if mF a b (CK l j)=true then E_ a b l f (j+1)else false
def Lu(a b l:List Rl):∀(f j:Nat),l.length=j+f->E_ a b l f j=(l.drop j).all (mF a b)
 |0,j,h=>by rw[List.drop_of_length_le O];rfl
 |f+1,j,h=>by
  have z:j<l.length:=O
  have e:CK l j=l[j]:=by simp[CK,Qc z]
  unfold E_;rw[Lu a b l f (j+1) O,Q4 z,ZI,e];cases mF a b l[j]<;>simp
def Eu(a b:List Rl):Bool:=decide (Cg a=0)&&decide (Cg b=0)&&(a++b).all (mF a b)
open Classical in
def aL5:List D->Option D
 |[.slice _ _ xs,.slice _ _ ys]=>if(xs=As (Bv xs)∧xs.length<=1000000∧Cw (Bv xs)∧G8 (Bv xs))∧ys=As (Bv ys)∧ys.length<=1000000∧Cw (Bv ys)∧G8 (Bv ys)then some (.bool (Eu (Bv xs) (Bv ys)))else none
 |_=>none
open Classical in
def aL4{na nb:Bool}{ta tb:Id}{a b:List Rl}(n:a.length<=1000000)(lb:b.length<=1000000)(w:Cw a)(u:Cw b)(r:G8 a)(e:G8 b):aL5 [.slice na ta (As a),.slice nb tb (As b)]=some (.bool (Eu a b)):=by
 have h:(As a=As (Bv (As a))∧(As a).length<=1000000∧Cw (Bv (As a))∧G8 (Bv (As a)))∧As b=As (Bv (As b))∧(As b).length<=1000000∧Cw (Bv (As b))∧G8 (Bv (As b)):=by
  grind [A3,A1]
 show(if _ then _ else _)=_;rw[if_pos h,A3,A3]
open Classical in
theorem kM{ds:List D}{r:D}(h:aL5 ds=some r):∃na ta a nb tb b,ds=[.slice na ta (As a),.slice nb tb (As b)]∧a.length<=1000000∧b.length<=1000000∧Cw a∧Cw b∧G8 a∧G8 b∧r= .bool (Eu a b):=by
 unfold aL5 at h;split at h
 ·rename_i na ta xs nb tb ys;split at h
  ·rename_i d;obtain⟨⟨u,y,o,j⟩,p,v,m,q⟩:=d;simp only[Qb]at h;subst h;refine⟨na,ta,Bv xs,nb,tb,Bv ys,by rw[←u,←p],?_,?_,o,m,j,q,rfl⟩
   ·rw[u,A1]at y;exact y
   ·rw[p,A1]at v;exact v
  ·cases h
 ·cases h
def aN7:=y0 f58 [] []
def uC:=y0 f59 [] []
def aM6:Fn Qf 59 12 uC [.t 4]:=Aj func59
def P9:=y1 f60 3 [] []
def uB:=y0 f60 [] [(3,P9)]
def aM5:Fn Qf 60 23 uB [.t 4]:=Aj func60
def uG:=y0 f25 [(3,[(5,1)])] []
def aM9:Fn Qf 25 52 uG [.t 4]:=Aj func25
def aPh:=y0 f186 [] []
def Rn:=y1 f189 3 [] []
def aPe:=y0 f189 [] [(3,Rn)]
def kJ:List D->Option D
 |[.int .i64 n,.int .i64 lo,.int .i64 hi]=>some (.bool (decide (lo<=n∧n<=hi)))
 |_=>none
def aCw:Kq kJ 58:=by
 refine AO (S:=λ_=>none) Ba (Aj func58:Fn Qf 58 15 aN7 [.t 6]) (λds r h=>?_) (λds r h=>?_)
 ·unfold kJ at h;split at h
  ·simp
  ·cases h
 ·unfold kJ at h;split at h
  ·rename_i n lo hi;simp only[Qb]at h;subst h;unfold aN7;simp only[↓C2,HH,simprocAttr]
   repeat' (first|(refine aG (λh=>?_) (λh=>?_)<;>try (exfalso;omega))|(simp only[↓C2,HE,simprocAttr,h,and_self,false_and]))
   all_goals (simp_all<;>omega)
  ·cases h
def aLF:List D->Option D
 |[.agg [.int .i64 a,.bool b,.int .i64 c,.slice nl t xs],.agg [.int .i64 q,.bool b2]]=>some (.int .i64 (if a=0 then q else a))
 |_=>none
def aUJ:Kq aLF 59:=by
 refine AO (S:=λ_=>none) Ba aM6 (λds r h=>?_) (λds r h=>?_)
 ·unfold aLF at h;split at h
  ·simp
  ·cases h
 ·unfold aLF at h;split at h
  ·rename_i a b c nl t xs q v;simp only[Qb]at h;subst h;unfold uC;simp only[↓C2,HE,simprocAttr,Ah,Qx,Qw,Qh,Qk,Qm,Qg,and_self,Qn,Qp]
   repeat' (first|(refine aG (λh=>?_) (λh=>?_)<;>try (exfalso;omega))|(simp only[↓C2,HE,simprocAttr,h,Ah,Qx,Qw,Qh,Qk,Qm,Qg,and_self,Qn,Qp,QQ]))
   all_goals simp_all
  ·cases h
def aLE:List D->Option D
 |[.slice nl t [],.fn g caps]=>some (.bool true)
 |_=>none
def aUI:Kq aLE 60:=by
 refine AO (S:=λ_=>none) Ba aM5 (λds r h=>?_) (λds r h=>?_)
 ·unfold aLE at h;split at h
  ·simp
  ·cases h
 ·unfold aLE at h;split at h
  ·rename_i nl t g caps;simp only[Qb]at h;subst h;unfold uB;simp only[↓C2,HH,simprocAttr,Qk];refine Af P9.eq_1 ?_;simp only[↓C2,HE,simprocAttr,and_self,Zn,Zk]
  ·cases h
def aLV:List D->Option D
 |[.agg [.int .i64 0,.bool b,.int .i64 0,.slice nl t []],.agg [.int .i64 q,.bool b2]]=>some (.int .i64 (if 1<=q∧q<=6 then 0 else 2))
 |_=>none
def aU2:Kq aLV 25:=by
 obtain⟨S,s,hl⟩:=By (Aa aCw (Aa aUJ (Aa aUI Ad)));have a:=hl 58 _ rfl;have e:=hl 59 _ rfl;have i:=hl 60 _ rfl;clear hl;refine AO (S:=S) s aM9 (λds r h=>?_) (λds r h=>?_)
 ·unfold aLV at h;split at h
  ·simp
  ·cases h
 ·unfold aLV at h;split at h
  ·rename_i b nl t q v;simp only[Qb]at h;subst h;unfold uG;have c:∀n lo hi,kJ [.int .i64 n,.int .i64 lo,.int .i64 hi]=some (.bool (decide (lo<=n∧n<=hi))):=λ_ _ _=>rfl
   have d:aLF [.agg [.int .i64 0,.bool b,.int .i64 0,.slice nl [] []],.agg [.int .i64 q,.bool v]]=some (.int .i64 q):=rfl;have f:∀nl t g caps,aLE [.slice nl t [],.fn g caps]=some (.bool true):=λ_ _ _ _=>rfl
   by_cases z:1<=q∧q<=6
   ·have j:¬(q<0):=by omega
    simp only[↓C2,H1,simprocAttr,Ah,Av,Aw,Qi,Qn,Qp,QQ,and_false,Ab a,c,Ab e,d,Ab i,f,z,j,Zk];refine A0 ?_;simp only[↓C2,H1,simprocAttr,Ah,Qn,Qp,and_false,z,Zn,Zk]
   ·simp only[↓C2,HE,simprocAttr,Ah,Qx,Qw,Qh,Qk,Qm,Qg,and_self,Qn,QQ,Ab a,c,z]
  ·cases h
def aOq:=y0 f113 [] []
def aPb:=y0 f62 [] []
def aPc:=y0 f192 [] []
abbrev Mt:=Bs×Int×Bool
def Ml(m:Mt):D:= .agg [.str m.1,.int .i64 m.2.1,.bool m.2.2]
def Az(l:List Mt):List D:=l.map Ml
def mtT:D->Mt
 | .agg [.str p,.int .i64 q,.bool b]=>(p,q,b)
 |_=>([],0,false)
def DI(xs:List D):List Mt:=xs.map mtT
def BW(l:List Mt):DI (Az l)=l:=by
 simp only[DI,Az,QJ]
 conv=>rhs;rw[←ZB l]
 exact QD λr _=>rfl
theorem AX(l:List Mt):(Az l).length=l.length:=Qy ..
def aCI(l:List Mt):(Az l).all (tW (some 3))=true:=by
 rw[Qt];intro x p;obtain⟨r,_,rfl⟩:=QZ.1 p;rfl
def BS(l:List Mt)(j:Nat):Mt:=l.getD j ([],0,false)
def Np{l:List Mt}{j:Nat}(h:j<l.length):(Az l)[j]?=some (Ml (BS l j)):=by
 grind [Az,BS]
def Db(p:Bs)(q:Int):Int:=if Ay p≠0 then Ay p else if 1<=q∧q<=6 then 0 else 2
def BE(l:List Mt)(p:Bs):Int:=Bc (l.map λm=>decide (m.1=p))
def yW{l:List Mt}{nl:Bool}{t:Id}(hl:l.length<=1000000){q:Bs}(m:HF)(fr i:Id)(n:m i 0=some (.str q)):
  (Gp 248 (some 3) aHh).ex [.slice nl t (Az l),.fn 248 [.ptr i 0]] m fr=some (.int .i64 (BE l q),[]):=by
 have e:(Az l).map (aHh (.str q))=(l.map λr=>decide (r.1=q)).map λb=>some (.bool b):=by
  simp only[Az,QJ];exact QD λr _=>rfl
 simp only[Gp,AX,hl,aCI,and_self,if_true,Gt,n,Qi,e,DD,QO];rfl
def GO(s:Bs)(l:List Bs):Bool:=l.any λq=>BA s q||BA q s
def aFu{l:List Bs}{nl:Bool}{t:Id}(hl:l.length<=1000000){s:Bs}(m:HF)(fr i:Id)(n:m i 0=some (.str s)):
  (kS 249 none aA7).ex [.slice nl t (l.map .str),.fn 249 [.ptr i 0]] m fr=some (.bool (GO s l),[]):=by
 have e:(l.map D.str).map (aA7 (.str s))=(l.map λq=>BA s q||BA q s).map λb=>some (.bool b):=by
  simp only[QJ];exact QD λr _=>rfl
 have j:(l.map D.str).all (tW none)=true:=by
  rw[Qt];intro x p;obtain⟨r,_,rfl⟩:=QZ.1 p;rfl
 simp only[kS,Qy,hl,j,and_self,if_true,Gt,n,Qi,e,DD,QO];simp only[GO,ZN];rfl
def aL9:List D->Option D
 |[.agg [.str p,.int .i64 q,.bool b]]=>if p.length<=1000000 then some (.int .i64 (Db p q))else none
 |_=>none
def aVi:Kq aL9 186:=by
 obtain⟨S,g,hl⟩:=By (Aa sA (Aa aU2 Ad));have n:=hl 107 _ rfl;have o:=hl 25 _ rfl;clear hl;refine AO (S:=S) g (Aj func186:Fn Qf 186 14 aPh [.t 2]) (λds r h=>?_) (λds r h=>?_)
 ·unfold aL9 at h;split at h
  ·simp
  ·cases h
 ·unfold aL9 at h;split at h
  ·rename_i p q b;split at h
   ·rename_i d;simp only[Qb]at h;subst h;unfold aPh;have a:kL [.str p]=some (.int .i64 (Ay p)):=if_pos d;have z:aLV [.agg [.int .i64 0,.bool false,.int .i64 0,.slice true [] []],.agg [.int .i64 q,.bool b]]=some (.int .i64 (if 1<=q∧q<=6 then 0 else 2)):=rfl;unfold Db;generalize Ay p=e at *;generalize (if 1<=q∧q<=6 then(0:Int)else 2)=w at *;by_cases c:e=0
    ·subst c;simp only[↓C2,H1,reduceIte,Qd,Qe,Ah,Av,Aw,QL,Qi,Cj,Ab n,a,Ab o,z,ne_eq]
    ·simp only[↓C2,HE,reduceIte,Qd,Qe,Ah,Qx,QL,Qw,Qh,Qk,Qm,Qg,and_self,Ab n,a,c,ne_eq]
   ·cases h
  ·cases h
open Classical in
def aHI:List D->Option D
 |[.agg [.slice _ _ xs],.str p]=>if xs=Az (DI xs)∧xs.length<=1000000 then some (.int .i64 (BE (DI xs) p))else none
 |_=>none
open Classical in
def Rv{nl:Bool}{t:Id}{l:List Mt}{p:Bs}(hl:l.length<=1000000):aHI [.agg [.slice nl t (Az l)],.str p]=some (.int .i64 (BE l p)):=by
 have h:Az l=Az (DI (Az l))∧(Az l).length<=1000000:=XS
 show(if _ then _ else _)=_;rw[if_pos h,BW]
def aCz:Kq aHI 187:=by
 obtain⟨S,g,hl⟩:=By (Aa aRS Ad);have a:=hl 247 _ rfl;clear hl;refine AO (S:=S) g (Aj func187:Fn Qf 187 9 aPg [.t 4]) (λds r h=>?_) (λds r h=>?_)
 ·unfold aHI at h;split at h
  ·simp
  ·cases h
 ·unfold aHI at h;split at h
  ·rename_i nl t xs p;split at h
   ·rename_i d;obtain⟨w,k⟩:=d;simp only[Qb]at h;subst h;generalize DI xs=l at w;subst w;rw[AX]at k;unfold aPg;simp only[↓C2,HE,reduceIte,Qd,Qe,Ah,Qx,QL,Qw,Qh,Qk,Qm,Qg,and_self,Qn,Qp,QQ,AH a,yW (q:=p) k]
   ·cases h
  ·cases h
def aHH:List D->Option D
 |[.str s,.slice _ _ xs]=>(Hf xs).bind λl=>if l.length<=1000000 then some (.bool (GO s l))else none
 |_=>none
def aL8{s:Bs}{nl:Bool}{t:Id}{l:List Bs}(hl:l.length<=1000000):aHH [.str s,.slice nl t (l.map .str)]=some (.bool (GO s l)):=by
 grind [aHH,He]
def aVh:Kq aHH 188:=by
 obtain⟨S,g,hl⟩:=By (Aa aXl Ad);have a:=hl 118 _ rfl;clear hl;refine AO (S:=S) g (Aj func188:Fn Qf 188 8 aPf [.t 4]) (λds r h=>?_) (λds r h=>?_)
 ·unfold aHH at h;split at h
  ·simp
  ·cases h
 ·unfold aHH at h;split at h
  ·rename_i s nl t xs;rw[QC]at h;obtain⟨l,j,h⟩:=h;obtain rfl:=FS j;split at h
   ·rename_i hl;simp only[Qb]at h;subst h;unfold aPf;simp only[↓C2,HE,reduceIte,Qd,Qe,Ah,Qx,QL,Qw,Qh,Qk,Qm,Qg,and_self,AH a,aFu (s:=s) hl]
   ·cases h
  ·cases h
def RI.base{fr r:Id}{m0 z m:HF}{l:List Bs}{j:Nat}(h:RI fr r z m l j)(e:∀i o,¬fr<:+i->z i o=m0 i o):RI fr r m0 m l j:=
 ⟨h.row,λi o w=>(h.out i o w).trans (e i o w)⟩
open Classical in
def aL7:List D->Option (List Bs)
 |[.agg [.slice _ _ xs]]=>if xs=Az (DI xs)∧xs.length<=1000000 then some ((DI xs).map (·.1))else none
 |_=>none
open Classical in
def aL6{nl:Bool}{t:Id}{l:List Mt}(hl:l.length<=1000000):aL7 [.agg [.slice nl t (Az l)]]=some (l.map (·.1)):=by
 have h:Az l=Az (DI (Az l))∧(Az l).length<=1000000:=XS
 show(if _ then _ else _)=_;rw[if_pos h,BW]
open Classical in
def aHG{ds:List D}{r:List Bs}(h:aL7 ds=some r):∃nl t l,ds=[.agg [.slice nl t (Az l)]]∧l.length<=1000000∧r=l.map (·.1):=by
 unfold aL7 at h;split at h
 ·rename_i nl t xs;split at h
  ·rename_i d;obtain⟨u,y⟩:=d;simp only[Qb]at h;subst h;refine⟨nl,t,DI xs,by rw[←u],?_,rfl⟩;rw[u,AX]at y;exact y
  ·cases h
 ·cases h
def aJt{S:HD}{fr:Id}{l:List Mt}{nl:Bool}{t:Id}{m0:HF}{k:Nat}{Q:Ex->St->Prop}(q:l.length<=1000000)
  (p:∀v,v.s 3= .row (k::fr) l.length->RI fr (k::fr) m0 v.m (l.map (·.1)) l.length->Q (.exit 0) v):
  ∀(f j:Nat) v g,l.length=j+f->k<v.c->v.s 3= .row (k::fr) l.length->v.s 11= .slice nl t (Az l)->v.s 12= .int .i64 (l.length:Int)->v.s 13= .int .i64 (j:Int)->RI fr (k::fr) m0 v.m (l.map (·.1)) j->A9 S fr Rn Q v g:=by
 intro f;induction f with
 |zero=>
  intro j v g b d o na i ua I;refine Af Rn.eq_1 ?_;have:¬((j:Int)<l.length):=O
  simp only[↓C2,HH,HZ,reduceIte,Qe,i,ua,this];exact p _ o X3
 |succ f ih=>
  intro j v g b d o na i ua I;refine Af Rn.eq_1 ?_;have u:j<l.length:=O
  have x:((j:Int)<l.length):=O
  have a:=nJ (j:=j);have hw:=wJ (j:=j) O;have e:(Az l)[j]?=some (.agg [.str (BS l j).1,.int .i64 (BS l j).2.1,.bool (BS l j).2.2]):=Np u;have hg:(l.map (·.1)).getD j []=(BS l j).1:=by simp[BS,Qc u]
  generalize BS l j=r at e hg;have w:((v.c+1+3)::fr=k::fr)=False:=eq_false Xb;have z:(k::fr=(v.c+1+3)::fr)=False:=eq_false Xb;have y:=I.row j XL;rw[if_neg O]at y;obtain⟨ma,n,da⟩:=v;simp only at o na i ua d w z y I;simp only[↓C2,H1,reduceIte,Qd,Qe,o,na,i,ua,x,a,hw,Qj,e,z,y,QA,false_and,Ah,Av,Aw,QL,Qi,Qu,Qz,Qo,false_and];refine ih (j+1) _ _ O Xa o na i rfl ?_;rw[←hg];exact((I.put Xb).put Xb).fill (QI _ _)
def aVg:(Vy aL7).ok Qf 189:=by
 refine rO (S:=λ_=>none) Ba (Aj func189:Fn Qf 189 25 aPe [.t 2]) (λds r m fr h j=>?_);obtain⟨nl,t,l,rfl,hl,rfl⟩:=aHG h;refine⟨U,?_⟩;have z:((0:Int)<=(l.length:Int)):=O
 have d:((l.length:Int)*(((16:Nat):Int)+1)<=140737488355328)=True:=eq_true O;unfold aPe;simp only[↓C2,HE,reduceIte,Qd,Qe,z,d,AX,Qj,ZC,Ah,Qx,QL,Qw,Qh,Qk,Qm,Qg,and_self,Qn,false_and];refine aJt (l:=l) (nl:=nl) (t:=t) (m0:=m) (k:=5) hl (λv u y=>?_) l.length 0 _ _ O Xa rfl rfl rfl rfl ?_
 ·simp only[↓C2,HH,reduceIte,Qd,Qe,u,Qy];exact⟨_,rfl,QI _ _,y⟩
 ·exact RI.base (RI.start (by simp[])) (λi o w=>aA (λe=>w Yn))
def aNR:=y0 f61 [] []
def aNy:=y0 f57 [] []
def aOc:=y0 f273 [] []
def aOW:=y0 Tryz.f219 [(1,[(1,0)])] []
def aOb:=y0 f274 [] []
def aNx:=y0 Tryz.f314 [] []
def aOa:=y0 f275 [(5,[(2,4),(2,6),(6,1),(6,2)]),(7,[(4,2)])] []
def aNw:=y0 f315 [] []
def Wq:=y1 f278 4 [] []
def aN6:=y0 f278 [(1,[(5,1)])] [(4,Wq)]
def gT:=y0 f316 [] []
def aDZ:Fn Qf 316 8 gT [.t 2]:=Aj func316
def aOU:=y0 f222 [] []
def Wp:=y1 f279 8 [] []
def aN4:=y0 f279 [(1,[(1,0)])] [(8,Wp)]
def aN3:=y0 f280 [] []
def aN2:=y0 f281 [] []
def aN1:=y0 f282 [] []
def aOS:=y0 f226 [] []
def aOR:=y0 f227 [] []
def aOQ:=y0 f228 [] []
def aNu:=y0 f318 [] []
def Wj:=y1 f343 2 [] []
def aNh:=y0 f343 [] [(2,Wj)]
def Wl:=y1 f317 5 [(7,[(6,2),(6,8),(9,2)])] []
def aNv:=y0 f317 [(1,[(1,0)]),(3,[(5,1),(5,7),(5,10)])] [(5,Wl)]
def aNi:=y0 f342 [] []
end Go.Vd
namespace Go.Vd
section
variable{α:Type}(lt:α->α->Bool)(d:α)
def swp(xs:List α)(j:Nat):List α:=(xs.set (j+1) (xs.getD j d)).set j (xs.getD (j+1) d)
def Sq(xs:List α):Nat->List α
 |0=>xs
 |j+1=>if lt (xs.getD (j+1) d) (xs.getD j d)=true then Sq (swp d xs j) j else xs
def Du:Nat->Nat->List α->List α
 |0,_,xs=>xs
 |f+1,i,xs=>Du f (i+1) (Sq lt d xs i)
def kR(l:List α)(m:α):Nat->Nat
 |0=>0
 |j+1=>if lt m (l.getD j d)=true then kR l m j else j+1
def aMV(l:List α)(m:α):∀j,kR lt d l m j<=j
 |0=>QA _
 |j+1=>by
  unfold kR;split
  ·exact Nat.le_succ_of_le (aMV l m j)
  ·exact QA _
def rB(xs:List α)(j:Nat):(swp d xs j).length=xs.length:=by simp[swp]
def Sp:∀(j:Nat)(xs:List α),(Sq lt d xs j).length=xs.length
 |0,xs=>rfl
 |j+1,xs=>by
  unfold Sq;split
  ·rw[Sp j,rB]
  ·rfl
theorem isortR_len:∀(f i:Nat)(xs:List α),(Du lt d f i xs).length=xs.length
 |0,_,xs=>rfl
 |f+1,i,xs=>by rw[Du,isortR_len f,Sp]
def aIn(a b:List α)(x y:α):swp d (a++x::y::b) a.length=a++y::x::b:=by
 simp_all [swp]
def fN(l:List α)(m:α):∀(j:Nat)(b:List α),j<=l.length->Sq lt d (l.take j++m::b) j=l.take (kR lt d l m j)++m::((l.take j).drop (kR lt d l m j)++b)
 |0,b,_=>by simp[Sq,kR]
 |j+1,b,h=>by
  have r:(l.take j).length=j:=Xu
  have p:l.take (j+1)=l.take j++[l.getD j d]:=by
   rw[Zb O];simp[Zy,Qc (show j<l.length by omega)]
  have e:l.take (j+1)++m::b=l.take j++l.getD j d::m::b:=by rw[p];simp
  have q:(l.take j++l.getD j d::m::b).getD (j+1) d=m:=by
   simp_all
  have x:(l.take j++l.getD j d::m::b).getD j d=l.getD j d:=by
   simp_all
  rw[e];unfold Sq kR;rw[q,x];split
  ·have k:=aIn d (l.take j) b (l.getD j d) m;rw[r]at k;rw[k,fN l m j (l.getD j d::b) O,p];have g:=aMV lt d l m j;rw[List.drop_append_of_le_length O];simp
  ·simp_all
def nI{xs:List α}{i:Nat}(h:lt (xs.getD i d) (xs.getD (i-1) d)=false):Sq lt d xs i=xs:=by
 cases i with
 |zero=>rfl
 |succ j=>
  unfold Sq;rw[Zv]at h;rw[if_neg (by rw[h];exact Bool.false_ne_true)]
def UA(l:List α)(m:α)(j:∀i,i+1<l.length->lt (l.getD (i+1) d) (l.getD i d)=false):
  ∀(f i:Nat),1<=i->i+f=l.length+1->Du lt d f i (l++[m])=if f=0 then l++[m]else l.take (kR lt d l m l.length)++m::l.drop (kR lt d l m l.length)
 |0,i,_,_=>by simp[Du]
 |f+1,i,hi,h=>by
  rw[if_neg (Qv f)];unfold Du;by_cases k:f=0
  ·subst k;have:i=l.length:=by omega
   subst this;have:=fN lt d l m l.length [] (QA _);simp only[Zp,List.append_nil]at this;unfold Du;exact this
  ·have g:i<l.length:=by omega
   have q:(l++[m]).getD i d=l.getD i d:=by simp[Zy,QU g]
   have x:(l++[m]).getD (i-1) d=l.getD (i-1) d:=by simp[Zy,QU (show i-1<l.length by omega)]
   rw[nI lt d (by rw[q,x];have:=j (i-1) O;rwa [show i-1+1=i by omega]at this),UA l m j f (i+1) O O,if_neg k]
end
end Go.Vd
namespace Go.Vd
open Go.RowKit
def D.plain:D->Bool
 | .bool _| .int _ _| .str _=>true
 |_=>false
def Rep.plain{w w':World}{g t:Gh}{d:D}{v:Value}(h:Rep w g d v)(y:d.plain=true):Rep w' t d v:=by
 cases h with
 |bool b=>exact .bool b
 |int k n=>exact .int k n
 |str s=>exact .str s
 |_=>cases y
def La(F:List D->Option (List D)):Il where
 rd:=λ_ _=>[]
 ex:=λds _ fr=>if(ds.map D.un).all D.calm=true then(F (ds.map D.un)).map λxs=>(.row fr xs.length,[(fr,0,flat xs)])else none
section
variable{P:Program}{B:Nat}{w0 w w':World}{m:HF}{g:Gh}
def HQ.adopt(h:HQ P B w0 m w g)(hb:Below w.heap.size w w'){fr:Id}(hf:B3 m g fr){b:Nat}(z:w.heap.size<=b){cur:Array Value}{T:TypeId}(hh:w'.heap[b]?=some (.cells cur T (0,0))){ds:List D}
  (hc:∀(j:Nat) d,ds[j]?=some d->d.plain=true∧∃v,cur[j]?=some v∧v.oneCell'=true∧Rep w' (g.obj fr b) d v):
  HQ P B w0 (m.put fr 0 ds) w' (g.obj fr b)∧H5 w g w' (g.obj fr b):=by
 have x:H5 w g w' (g.obj fr b):=by
  refine⟨λp hp=>?_,λb=>QA _,λi' b h=>?_,rfl,λi x h=>h,hb.size,λi' b' h=>?_,λi x h=> .inl ⟨i,x,h,rfl⟩,λk o hk _ _=>(hb.block k (QF.1 hk).1).trans hk⟩
  rotate_right
  ·simp only[Gh.obj]at h;split at h
   ·simp only[Qb]at h;exact .inr O
   ·exact .inl ⟨i',h⟩
  ·by_cases ea:p.block<w.heap.size
   ·exact hb.cell ea
   ·rw[h.gz _ O]at hp;omega
  ·simp only[Gh.obj];split
   ·rename_i e;subst e;rw[hf.2.1]at h;cases h
   ·exact h
 refine⟨?_,x⟩;have ne:∀i' b',g.dl i'=some b'->i'≠fr:=λi' b' hb e=>by subst e;rw[hf.2.1]at hb;cases hb
 have da:∀o d,m.put fr 0 ds fr o=some d->ds[o]?=some d:=by
  intro o d hm;by_cases ho:o<ds.length
  ·have ba:m.put fr 0 ds fr (0+o)=ds[o]?:=aE ho;rw[Qm]at ba;rw[←ba];exact hm
  ·rw[aD O,hf.1 o]at hm;cases hm
 have ua:∀{o d},m.put fr 0 ds fr o=some d->d.plain=true:=λhm=>(hc _ _ (da _ _ hm)).1
 have a:∀{i o d},m.put fr 0 ds i o=some d->d.plain=false->i≠fr∧m i o=some d:=by
  grind [aA]
 refine⟨h.below.trans (hb.mono h.size),QR h.size hb.size,λb' wa=>h.gz b' (QR hb.size wa),h.old,λi' b' hi=>?_,λi1 i2 b' u f=>?_,λi' o d hm t=>?_,λi' e hi=>?_,λi1 i2 e e' b' y y' u f h3 h4=>?_,h.itr.to (λi' s p e=>(a e rfl).2) λi' b' s p _ _ _ e1 e2 e3=>?_⟩
 rotate_right
 ·have ea:b'<w.heap.size:=(QF.1 e1).1;refine⟨rfl,hb.block b' ea,e2,λi1 u=>?_⟩;simp only[Gh.obj]at u;split at u
  ·grind
  ·exact e3 i1 u
 ·simp only[Gh.obj]at hi;split at hi
  ·rename_i e;subst e;simp only[Qb]at hi;subst hi;refine⟨QR h.size z,h.gz _ z,cur,T,hh,λo d hm=>?_⟩;exact(hc o d (da o d hm)).2
  ·rename_i ga;obtain⟨p,q,eb,T',sa,r⟩:=h.obj i' b' hi;refine⟨p,q,eb,T',(hb.block b' (h.lt hi)).trans sa,λo d hm=>?_⟩;rw[aA ga]at hm;obtain⟨v,r1,r2,r3⟩:=r o d hm;exact⟨v,r1,r2,r3.ext x⟩
 ·simp only[Gh.obj]at u f;split at u<;>split at f
  ·simp_all
  ·simp only[Qb]at u;subst u;have:=h.lt f;omega
  ·simp only[Qb]at f;subst f;have:=h.lt u;omega
  ·exact h.inj _ _ _ u f
 ·simp only[Gh.obj]at t;split at t
  ·cases t
  ·rename_i ga;rw[aA ga]at hm;exact h.kind _ _ _ hm t
 ·obtain⟨ga,hi⟩:=a hi rfl;obtain⟨b1,n,c,sz,na,t1,t2,t3,t4,t5,t6,t7,t8,t9,xa⟩:=h.tok i' e hi;have ea:b1<w.heap.size:=(QF.1 t5).1;refine⟨b1,n,c,sz,na,t1,t2,t3,t4,(hb.block b1 ea).trans t5,t6,t7,t8,t9,λi1 u=>?_⟩;simp only[Gh.obj]at u;split at u
  ·grind
  ·exact xa i1 u
 ·exact h.tinj _ _ _ _ _ _ _ (a u rfl).2 (a f rfl).2 h3 h4
end
section
variable{P:Program}{S:HD}{f:FuncId}{N:Nat}{dc:DC}{rs:List RV}
def aCo(hS:HD.ok P S)(hf:Fn P f N dc rs){F:List D->Option (List D)}(hN:∀ds r,F ds=some r->ds.length<=N)
  (hF:∀ds xs,F ds=some xs->(∀x∈flat xs,x.plain=true)∧dc.wp S [] (Eo rs λd m'=>∃t e,d= .slice false t xs∧t≠[]∧m' t 0=some (.tok (e+1))) ⟨BQ ds,λ_ _=>none,0⟩):(La F).ok P f:=by
 obtain⟨fn,ca,q,y,h3,h4,h5,h6⟩:=hf.is;refine⟨⟨fn,q,XI,h3⟩,λds m m' fr _=>rfl,?_⟩;intro B w0 w m g fr ds vs r u hi ia hl da z;simp only[La]at z;split at z
 ·rename_i la;rw[Ql]at z;obtain⟨xs,hr,z⟩:=z;simp only[Qs]at z;obtain⟨rfl,rfl⟩:=z;obtain⟨ua,za⟩:=hF _ _ hr;have va:=Oh P w hi.gz;have s:∀(j:Nat) d v,(ds.map D.un)[j]?=some d->vs[j]?=some v->Rep w (startG g.G) d v:=by
   intro j d v hd hv;have hc:=Qt.1 la d (Qr hd);rw[QN,Ql]at hd;obtain⟨d',ra,rfl⟩:=hd;exact(da j d' v ra hv).un.calm_to hc (λ_ _=>rfl) (λ_=>QA _)
  have ja:=Ha (B:=w.heap.size) (w0:=w) (w:=w) (g:=startG g.G) (ns:=[]) (m:=λ_ _=>none) (ds:=ds.map D.un) (vs:=vs) hS hf (hN _ _ hr) va (λk i _=>⟨λ_=>rfl,rfl,rfl⟩) Xk s za;refine ja.mono ?_;rintro e w' ⟨v,d,m',g',rfl,fa,ma,_,ab,t,e',rfl,ht,wa⟩;obtain⟨b,n,c,sz,cur,t1,t2,t3,t4,t5,t6,t7,t8,t9,xa⟩:=fa.tok t e' wa;rcases ab.slice_inv with ⟨h,_⟩|⟨_,ad,n',c',pa,vv,rfl,q1,q2,q3,q4,q5,q6,q7,q8,q9⟩
  ·cases h
  ·obtain⟨o,l,a⟩:=q8 ht;rw[t1]at a;simp only[Qb,Qs]at a;obtain⟨hb,hn,hc,ka⟩:=a;have xb:ad=⟨b,0,none⟩:=by
    cases ad;simp only at hb o l;subst hb o l;rfl
   subst xb;subst hn hc ka;have ya:=Cx q3;obtain⟨i1,i2⟩:=hi.adopt fa.below (ia fr (Zq _)) t2 t5 (ds:=flat xs) (λj d hd=>by
    have p:j<n*sz:=by rw[q1,←ya];exact(Qq.1 hd).1
    have hp:=ua d (Qr hd);have ha:=q4 j p;rw[Gk,Qm]at ha;refine⟨hp,vv j,?_,q5 j p,(q6 j d hd).plain hp⟩;simpa[World.cell?,t5]using ha)
   refine⟨_,g.obj fr b,rfl,i1,i2,?_,λi hf ga=>EZ hf ga _ _⟩;rw[←q1];exact .row fr n c b q2 (by simp[Gh.obj])
 ·cases z
def aSB(m:HF)(d r:D):Prop:=r=d.un∨(∃i xs sz,d= .row i xs.length∧r= .slice false [] xs∧(∀x∈xs,x.calm=true∧x.cells.length=sz)∧∀(j:Nat) x,(flat xs)[j]?=some x->m i j=some x)∨
 ∃i xs,d= .ptr i 0∧r= .eptr xs∧(∀x∈xs,x.calm=true)∧∀(j:Nat) x,xs[j]?=some x->m i j=some x
def aAS(p:D->D->Prop):List D->List D->Prop
 |[],[]=>True
 |c::cs,x::xs=>p c x∧aAS p cs xs
 |_,_=>False
def aSA(m:HF)(d r:D):Prop:=aSB m d r∨∃cs xs,d= .agg cs∧r= .agg xs∧aAS (aSB m) cs xs
def aXz(m:HF)(d r:D):Prop:=(r.calm=true∧aSA m d r)∨∃cs xs,d= .tup cs∧r= .tup xs∧aAS (aSA m) cs xs
def aAS.get{p:D->D->Prop}:∀{cs xs:List D},aAS p cs xs->cs.length=xs.length∧∀(j:Nat) c x,cs[j]?=some c->xs[j]?=some x->p c x
 |[],[],_=>⟨rfl,U⟩
 |c::cs,x::xs,h=>by
  obtain⟨u,y⟩:=h;obtain⟨a,b⟩:=aAS.get y;refine⟨by simp[a],λj c' v d w=>?_⟩;cases j with
  |zero=>simp only[Qg,Qb]at d w;subst d w;exact u
  |succ j=>simp only[QM]at d w;exact b j c' v d w
 |[],_::_,h=>h.elim
 |_::_,[],h=>h.elim
def sY(hS:HD.ok P S)(hf:Fn P f N dc rs){F:List D->Option D}(hN:∀ds r,F ds=some r->ds.length<=N)
  (hF:∀ds r,F ds=some r->r.calmR=true∧dc.wp S [] (Eo rs λd m'=>aXz m' d r) ⟨BQ ds,λ_ _=>none,0⟩):(Ac F).ok P f:=by
 obtain⟨fn,ca,q,y,h3,h4,h5,h6⟩:=hf.is;refine⟨⟨fn,q,XI,h3⟩,λds m m' fr _=>rfl,?_⟩;intro B w0 w m g fr ds vs r u hi ia hl da z;simp only[Ac]at z;split at z
 ·rename_i la;rw[Ql]at z;obtain⟨r',hr,z⟩:=z;simp only[Qs]at z;obtain⟨rfl,rfl⟩:=z;obtain⟨oa,za⟩:=hF _ _ hr;have va:=Oh P w hi.gz;have s:∀(j:Nat) d v,(ds.map D.un)[j]?=some d->vs[j]?=some v->Rep w (startG g.G) d v:=by
   intro j d v o hv;have hc:=Qt.1 la d (Qr o);rw[QN,Ql]at o;obtain⟨d',ra,rfl⟩:=o;exact(da j d' v ra hv).un.calm_to hc (λ_ _=>rfl) (λ_=>QA _)
  have ja:=Ha (B:=w.heap.size) (w0:=w) (w:=w) (g:=startG g.G) (ns:=[]) (m:=λ_ _=>none) (ds:=ds.map D.un) (vs:=vs) hS hf (hN _ _ hr) va (λk i _=>⟨λ_=>rfl,rfl,rfl⟩) Xk s za;refine ja.mono ?_;rintro e w' ⟨v,d,m',g',rfl,n,ma,_,ab,na⟩
  let G':Nat->Nat:=λb=>max (g'.G b) (match w'.heap[b]? with|some (.cells c _ _)=>c.size|_=>0)
  have t:∀b,g'.G b<=(g.glue w G').G b:=by
   intro b;simp only[Gh.glue];split
   ·rename_i ea;rw[n.old b ea,ma.G0];exact QA _
   ·exact Nat.le_max_left ..
  have l:∀b,w'.heap.size<=b->G' b=0:=by
   intro b hb;simp only[G'];rw[Array.getElem?_eq_none hb,n.gz b hb];rfl
  have hC:∀{d r:D} {v:Value},Rep w' g' d v->aSB m' d r->r.calm=true->Rep w' (g.glue w G') r v:=by
   intro d r v h hs hc;rcases hs with rfl|⟨i,xs,sz,rfl,rfl,p,hm⟩|⟨i,xs,rfl,rfl,p,hm⟩
   ·exact h.un.calm_to hc (λ_ _=>rfl) t
   ·obtain⟨b,cap,rfl,qa,hb⟩:=h.row_inv;obtain⟨mb,kb,cur,T,a,ua⟩:=n.obj i b hb;have ya:=Cx λx h=>(p x h).2
    have fb:∀(j:Nat),j<(flat xs).length->∃v,cur[j]?=some v∧v.oneCell'=true∧∃x,(flat xs)[j]?=some x∧Rep w' g' x v:=by
     grind
    have ka:(flat xs).length<=cur.size:=by
     grind
    have la:∀x∈xs,x.calm=true:=λx h=>(p x h).1
    refine aH (sz:=sz) (cur:=cur) (vs:=cur.toList.take (flat xs).length) a rfl qa (λx h=>(p x h).2) ⟨Xb,λv hv=>?_,λj x v pa hv=>?_⟩ (λj v hv=>?_) ?_ (λh=>absurd rfl h) la
    ·obtain⟨j,hj,rfl⟩:=QW hv;have ta:j<(flat xs).length:=Zj hj (Zg _ _);obtain⟨v',r1,r2,_⟩:=fb j ta;have:(cur.toList.take (flat xs).length)[j]?=some v':=by rw[QK ta];simpa using r1
     rw[Qc hj]at this;rw[QG this];exact r2
    ·have ta:j<(flat xs).length:=(Qq.1 pa).1;obtain⟨v',r1,r2,x',ha,r3⟩:=fb j ta;rw[pa]at ha;obtain rfl:=QG ha;have:(cur.toList.take (flat xs).length)[j]?=some v':=by rw[QK ta];simpa using r1
     rw[hv]at this;obtain rfl:=QG this;exact r3.calm_to (G9 la x (Qr pa)) (λ_ _=>rfl) t
    ·grind
    ·rw[←ya];simp only[Gh.glue,G'];rw[if_neg O,a];exact QR ka (Zz ..)
   ·obtain⟨b,rfl,hb⟩:=h.ptr_inv;obtain⟨mb,kb,cur,T,a,ua⟩:=n.obj i b hb;have fb:∀(j:Nat)(hj:j<xs.length),∃v,cur[j]?=some v∧v.oneCell'=true∧Rep w' g' xs[j] v:=λj hj=>ua j _ (hm j _ (Qc hj))
    have ka:xs.length<=cur.size:=by
     rcases Zu xs.length with h0|h0
     ·omega
     ·obtain⟨v,r1,_⟩:=fb (xs.length-1) O;have:=(QF.1 r1).1;omega
    refine .eptr xs ⟨b,0,none⟩ (λj=>cur.getD j undef) (λj hj=>?_) (λj hj=>?_) (λj d o=>?_) (λ_=>?_) p
    ·rw[Gk,Qm];simp[World.cell?,a,Array.getD,show j<cur.size by omega]
    ·obtain⟨v,r1,r2,_⟩:=fb j hj;have:cur.getD j undef=v:=by simp[Zh,r1]
     rw[this];exact r2
    ·have hj:=(Qq.1 o).1;obtain⟨v,r1,_,r3⟩:=fb j hj;have q:cur.getD j undef=v:=by simp[Zh,r1]
     have y:xs[j]=d:=(Qq.1 o).2;rw[y]at r3;rw[q];exact r3.calm_to (p d (Qr o)) (λ_ _=>rfl) t
    ·simp only[Gh.glue,G'];rw[if_neg O,a];exact QR (by simpa using ka) (Zz ..)
  have hD:∀{d r:D} {v:Value},Rep w' g' d v->aSA m' d r->r.calm=true->Rep w' (g.glue w G') r v:=by
   intro d r v h hs hc;rcases hs with hs|⟨cs,xs,rfl,rfl,hL⟩
   ·exact hC h hs hc
   ·obtain⟨us,rfl,k1,k2,k3⟩:=aJ h;obtain⟨l1,l2⟩:=hL.get;refine .agg _ us (by rw[k1,l1]) k2 (λj x v p hv=>?_);have hj:j<cs.length:=by rw[l1];exact(Qq.1 p).1
    exact hC (k3 j _ v (Qc hj) hv) (l2 j _ x (Qc hj) p) (iD hc x (Qr p))
  refine⟨v,g.glue w G',rfl,hi.glue n.below l,H5.glue hi.gz n.below,?_,λi hf _=>hf⟩;rcases na with ⟨hc,hs⟩|⟨cs,xs,rfl,rfl,hL⟩
  ·exact hD ab hs hc
  ·obtain⟨us,rfl,k1,k2⟩:=ab.tup_inv;obtain⟨l1,l2⟩:=hL.get;refine .tup _ us (by rw[k1,l1]) (λj x v p hv=>?_);have hj:j<cs.length:=by rw[l1];exact(Qq.1 p).1
   simp only[D.calmR,Qt]at oa;exact hD (k2 j _ v (Qc hj) hv) (l2 j _ x (Qc hj) p) (oa x (Qr p))
 ·cases z
end
def aJE:D->Bool
 | .slice _ _ _=>true
 |_=>false
def Fw:List D->Nat
 |[]=>0
 | .slice _ _ xs::r=>xs.length+Fw r
 |_::r=>Fw r
def iB:∀{L ys:List D},FD L=some ys->ys.length=Fw L∧L.all aJE=true
 |[],ys,h=>by simp only[FD,Qb]at h;subst h;exact⟨rfl,rfl⟩
 |x::r,ys,h=>by
  unfold FD at h;split at h
  ·rename_i q;cases q
  ·rename_i nl t xs k q;cases q;rw[Ql]at h;obtain⟨zs,d,rfl⟩:=h;obtain⟨u,y⟩:=iB d;exact⟨by simp[Fw,u],by simp[aJE,y]⟩
  ·cases h
def kP(sz:Nat)(d:D):Bool:=d.cells.length==sz
def nO{sz:Nat}{ys:List D}(h:ys.all (kP sz)=true):aF ys sz=sz:=by
 cases ys with
 |nil=>rfl
 |cons y r=>
  have:=Qt.1 h y (Q5 ..);simpa[aF,kP]using this
def aZd{n bytes:Nat}(o:bytes<=1000000)(w:n<=100000):n*(bytes+1)<=140737488355328:=QR (Nat.mul_le_mul w (Nat.succ_le_succ o)) O
def aDS{m:HF}{e:Nat}{fr t:Id}{nl:Bool}{xs:List D}:HN.app m (Bm e fr (.slice nl t xs)) fr 0=some (.tok (e+1)):=by
 cases nl<;>simp[Bm,HN.app,BV]
def MS(pt:Nat):DC:=(.seq (.row [⟨some 12,.bin .lss (.t 11) (.t 10),[],none⟩]) (.seq (.cond (.t 12) .skip (.exit 0)) (.seq (.block 1 (.seq (.row [⟨some 13,.iaddr 1 (.t 9) (.t 11),[],none⟩,⟨some 14,.load none (.t 13),[],none⟩,⟨some 5,.mv (.t 14),[],none⟩]) (.seq (.row [⟨some 15,.mv (.t 3),[],none⟩,⟨some 16,.mv (.t 5),[],none⟩,⟨some 17,.len false (.t 16),[],none⟩,⟨some 18,.bin .add (.t 15) (.t 17),[],none⟩,⟨some 3,.mv (.t 18),[],none⟩]) (.seq (.row [⟨some 19,.mv (.t 3),[],none⟩,⟨some 20,.bin .lss (.t 19) (.c (.int .i64 0)),[],none⟩]) (.cond (.t 20) (.row [⟨some 21,.mkif pt (.c (.str [108,101,110,32,111,117,116,32,111,102,32,114,97,110,103,101])),[],none⟩,⟨none,.stop,[],none⟩]) .skip))))) (.row [⟨some 22,.bin .add (.t 11) (.c (.int .i64 1)),[],none⟩,⟨some 11,.mv (.t 22),[],none⟩]))))
def MR(e sz bytes:Nat):DC:=(.seq (.row [⟨some 28,.bin .lss (.t 27) (.t 26),[],none⟩]) (.seq (.cond (.t 28) .skip (.exit 2)) (.seq (.block 3 (.seq (.row [⟨some 29,.iaddr 1 (.t 25) (.t 27),[],none⟩,⟨some 30,.load none (.t 29),[],none⟩,⟨some 8,.mv (.t 30),[],none⟩]) (.row [⟨some 31,.mv (.t 6),[],none⟩,⟨some 32,.mv (.t 8),[],none⟩,⟨some 33,.app e sz bytes (.t 31) (.t 32),[],none⟩,⟨some 6,.mv (.t 33),[],none⟩]))) (.row [⟨some 34,.bin .add (.t 27) (.c (.int .i64 1)),[],none⟩,⟨some 27,.mv (.t 34),[],none⟩]))))
def G7(pt e sz bytes gf:Nat):DC:=(.seq (.row [⟨some 2,.mv (.c (.slice true [] [])),[],none⟩]) (.seq (.row [⟨some 3,.mv (.c (.int .i64 0)),[],none⟩]) (.seq (.seq (.row [⟨some 9,.mv (.t 0),[],none⟩,⟨some 10,.len false (.t 9),[],none⟩,⟨some 11,.mv (.c (.int .i64 0)),[],none⟩]) (.block 0 (.loop (MS pt)))) (.seq (.row [⟨some 23,.mv (.t 3),[],none⟩,⟨some 24,.call (.c (.fn gf [])) [(.c (.slice true [] [])),(.t 23)],[],none⟩,⟨some 6,.mv (.t 24),[],none⟩]) (.seq (.seq (.row [⟨some 25,.mv (.t 0),[],none⟩,⟨some 26,.len false (.t 25),[],none⟩,⟨some 27,.mv (.c (.int .i64 0)),[],none⟩]) (.block 2 (.loop (MR e sz bytes)))) (.seq (.row [⟨some 35,.mv (.t 6),[],none⟩,⟨some 2,.mv (.t 35),[],none⟩]) .ret))))))
def aCT{pt:Nat}{S:HD}{ns:Id}{L:List D}{nl:Bool}{t:Id}{Q:Ex->St->Prop}(f:L.length<=1000)(i:L.all aJE=true)
  (ga:∀(v:St),v.s 0= .slice nl t L->v.s 3= .int .i64 (Fw L:Nat)->Q (.exit 0) v):
  ∀(R:List D)(k a:Nat) v g,L.drop k=R->k<=L.length->a+Fw R=Fw L->Fw L<=1000000->v.s 0= .slice nl t L->v.s 9= .slice nl t L->v.s 10= .int .i64 (L.length:Nat)->v.s 11= .int .i64 (k:Nat)->v.s 3= .int .i64 (a:Nat)->
   A9 S ns (MS pt) Q v g:=by
 intro R;induction R with
 |nil=>
  intro k a v g z m r n q h9 e na o;refine Af (MS.eq_1 pt) ?_;have w:L.length<=k:=Xw
  have:¬((k:Int)<L.length):=O
  simp only[↓C2,HH,HZ,reduceIte,Qe,e,na,this];refine ga _ ?_ ?_
  ·simp only[↓C2,reduceIte,Qd,q]
  ·simp only[↓C2,reduceIte,Qd,o];simp only[Fw]at r;rw[←r];rfl
 |cons x R ih=>
  intro k a v g z m r n q h9 e na o;refine Af (MS.eq_1 pt) ?_;have y:k<L.length:=by
   grind
  have qa:L[k]?=some x:=by
   have:=congrArg (·[0]?) z;simpa using this
  have p:aJE x=true:=Qt.1 i x (Qr qa);have j:L.drop (k+1)=R:=by
   rw[←ZE,z];rfl
  match x,p with
  | .slice nl' t' xs,_=>
   have ea:((k:Int)<L.length):=O
   have va:(0:Int)<=(k:Int):=O
   have d:L[(k:Int).toNat]?=some (.slice nl' t' xs):=by simpa using qa
   simp only[Fw]at r;have w1:IntKind.i64.wrap ((a:Int)+(xs.length:Int))=((a+xs.length:Nat):Int):=Yp
   have c:IntKind.i64.wrap ((k:Int)+1)=((k+1:Nat):Int):=Yp
   have b:¬(((a+xs.length:Nat):Int)<0):=O
   simp only[↓C2,HE,reduceIte,Qd,Qe,h9,e,na,o,ea,va,d,w1,c,b];exact ih (k+1) (a+xs.length) _ _ j O O n q h9 e rfl rfl
def aCS{e sz bytes:Nat}(ka:bytes<=1000000){S:HD}{ns:Id}{L:List D}{nl0:Bool}{t0:Id}{Q:Ex->St->Prop}(f:L.length<=1000)
  (p:∀(v:St)(nl:Bool)(t:Id)(ys:List D),FD L=some ys->v.s 6= .slice nl t ys->(nl=true->ys=[])->Mf v.m e (.slice nl t ys)->Q (.exit 2) v):
  ∀(R:List D)(k:Nat)(z zs:List D)(nl:Bool)(t:Id) v g,L.drop k=R->k<=L.length->FD R=some zs->FD L=some (z++zs)->(z++zs).all (kP sz)=true->(z++zs).length<=100000->
   (nl=true->z=[])->Mf v.m e (.slice nl t z)->
   v.s 6= .slice nl t z->v.s 25= .slice nl0 t0 L->v.s 26= .int .i64 (L.length:Nat)->v.s 27= .int .i64 (k:Nat)->
   A9 S ns (MR e sz bytes) Q v g:=by
 intro R;induction R with
 |nil=>
  intro k z zs nl t v g o u hz hL c w na n h6 i b r;refine Af (MR.eq_1 e sz bytes) ?_;have za:L.length<=k:=by simpa using o
  have:¬((k:Int)<L.length):=O
  simp only[FD,Qb]at hz;subst hz;simp only[↓C2,HH,HZ,reduceIte,Qe,b,r,this];refine p _ nl t z (by simpa using hL) ?_ na n;simp only[↓C2,reduceIte,Qd,h6]
 |cons x R ih=>
  intro k z zs nl t v g o u hz hL c w na n h6 i b r;refine Af (MR.eq_1 e sz bytes) ?_;have ra:k<L.length:=by
   grind
  have qa:L[k]?=some x:=by
   have:=congrArg (·[0]?) o;simpa using this
  have y:L.drop (k+1)=R:=by
   rw[←ZE,o];rfl
  unfold FD at hz;split at hz
  ·rename_i q;cases q
  ·rename_i nl' t' xs R' q;cases q;rw[Ql]at hz;obtain⟨a,sa,rfl⟩:=hz;have ea:((k:Int)<L.length):=by omega
   have va:(0:Int)<=(k:Int):=O
   have d:L[(k:Int).toNat]?=some (.slice nl' t' xs):=by simpa using qa
   have w2:IntKind.i64.wrap ((k:Int)+1)=((k+1:Nat):Int):=Yp
   simp only[↓C2,HE,reduceIte,Qd,Qe,h6,i,b,r,ea,va,d];have j:(if nl=true then xs else z++xs)=z++xs:=BF na;refine aG (λhc=>?_) (λhc=>?_)
   ·obtain⟨rfl,rfl⟩:=hc;obtain rfl:=na rfl;simp only[↓C2,HH,Iz,reduceIte,Qd,Qe,r,w2];exact ih (k+1) [] a true [] _ _ y O sa (by simpa using hL) XO Xx (λ_=>rfl) (.inl rfl) rfl i b rfl
   ·have ib:xs.all (kP sz)=true:=by
     rw[Zs,Zs]at c;simp only[Q3]at c;exact c.2.1
    refine aB ⟨aZd ka (by simp only[Q6]at w;omega),nO ib,n⟩ ?_;rw[j];simp only[↓C2,HH,Iz,reduceIte,Qd,Qe,r,w2];refine ih (k+1) (z++xs) a false _ _ _ y O sa (by simpa using hL) XO Xx (λh=>Xc) (.inr ⟨aDS,U⟩) rfl i b rfl
  ·cases hz
def Va(sz:Nat):List D->Option (List D)
 |[.slice _ _ L]=>match FD L with
  |some ys=>if L.length<=1000∧0<ys.length∧ys.length<=100000∧ys.all (kP sz)=true then some ys else none
  |none=>none
 |_=>none
def SL{P:Program}{f gf pt e sz bytes:Nat}(i:bytes<=1000000){S:HD}(g:S gf=some (DV e)){L ys:List D}{nl:Bool}{t:Id}(k:FD L=some ys)(c1:L.length<=1000)(c2:0<ys.length)(c3:ys.length<=100000)(p:ys.all (kP sz)=true)
  {R:D->HF->Prop} (x:∀t m,Mf m e (.slice false t ys)->R (.slice false t ys) m):(G7 pt e sz bytes gf).wp S [] (Eo [.t 2] R) ⟨BQ [.slice nl t L],λ_ _=>none,0⟩:=by
 obtain⟨hl,s⟩:=iB k;unfold G7;simp only[↓C2,HH,reduceIte,Qd,Qe];refine aCT c1 s (λv b o=>?_) L 0 0 _ _ rfl O U O rfl rfl rfl rfl rfl;simp only[↓C2,HH,HZ,reduceIte,Qe,o];rw[AH g];have a:(DV e).ex ([D.slice true [] [],D.int IntKind.i64 (Fw L:Nat)]++[]) v.m [v.c+1]=some (.slice false [0,v.c+1] [],[([0,v.c+1],0,[.tok (e+1)])]):=by
  grind [DV]
 refine aI a ?_;simp only[↓C2,HH,reduceIte,Qd,Qe,b];refine aCS i c1 (λq nl' t' zs d y w z=>?_) L 0 [] ys false _ _ _ rfl O k (by simpa using k) (by simpa using p) (by simpa using c3) (λh=>Xc) (.inr ⟨?_,U⟩) rfl b rfl rfl
 ·rw[k]at d;simp only[Qb]at d;subst d;have r:nl'=false:=by
   grind
  subst r;simp only[↓C2,HH,reduceIte,Qd,Qe,y];exact x _ _ z
 ·simp[BV]
section
variable{P:Program}{f gf pt e sz bytes:Nat}
def Tc{ds ys:List D}(h:Va sz ds=some ys):∃nl t L,ds=[.slice nl t L]∧FD L=some ys∧L.length<=1000∧0<ys.length∧ys.length<=100000∧ys.all (kP sz)=true:=by
 unfold Va at h;split at h
 ·grind
 ·cases h
def gS(gf e:Nat):HD:=λf=>if f=gf then some (DV e)else none
def aM2(a:(DV e).ok P gf):HD.ok P (gS gf e):=by
 intro f q h;unfold gS at h;split at h
 ·simp_all
 ·cases h
def aJ8(k:Fn P f 36 (G7 pt e sz bytes gf) [.t 2])(o:bytes<=1000000)(a:(DV e).ok P gf):(La λds=>(Va sz ds).bind λys=>if(flat ys).all D.plain=true then some ys else none).ok P f:=by
 refine aCo (aM2 a) k (λds r h=>?_) (λds r h=>?_)
 ·rw[QC]at h;obtain⟨ys,h,_⟩:=h;obtain⟨nl,t,L,rfl,_⟩:=Tc h;simp
 ·rw[QC]at h;obtain⟨ys,h,y⟩:=h;split at y
  ·rename_i g;simp only[Qb]at y;subst y;obtain⟨nl,t,L,rfl,b,c1,c2,w,v⟩:=Tc h;refine⟨λx p=>Qt.1 g x p,SL (P:=P) (f:=f) o (by simp[gS]) b c1 c2 w v λt m z=>?_⟩;rcases z with h|⟨u,y⟩
   ·cases h
   ·exact⟨t,e,rfl,y,u⟩
  ·cases y
def uP(k:Fn P f 36 (G7 pt e sz bytes gf) [.t 2])(o:bytes<=1000000)(a:(DV e).ok P gf){F:List D->Option D}
  (y:∀ds r,F ds=some r->∃nl t L ys,ds=[.slice nl t L]∧FD L=some ys∧L.length<=1000∧0<ys.length∧ys.length<=100000∧ys.all (kP sz)=true∧r= .slice false [] ys):(Ac F).ok P f:=by
 refine AO (aM2 a) k (λds r h=>?_) (λds r h=>?_)
 ·grind
 ·obtain⟨nl,t,L,ys,rfl,b,c1,c2,w,p,rfl⟩:=y ds r h;exact SL (P:=P) (f:=f) o (by simp[gS]) b c1 c2 w p λt m z=>⟨rfl,rfl⟩
end
def OG(n:Nat):UInt8:=if n<10 then UInt8.ofNat (48+n)else UInt8.ofNat (87+n)
def PH(s:List UInt8):List UInt8:=s.flatMap λb=>[OG (b.toNat / 16),OG (b.toNat % 16)]
theorem hexB_len:∀s:List UInt8,(PH s).length=2*s.length
 |[]=>rfl
 |b::r=>by
  have:=hexB_len r;simp only[PH,List.flatMap_cons,Q6,Qh,Qk]at this ⊢;omega
def FE(a b:List UInt8):AF (a++b)=AF a++AF b:=by simp[AF]
def CA(a:List UInt8):(AF a).length=a.length:=by simp[AF]
def Df:∀a:List UInt8,BO (AF a)=some a
 |[]=>rfl
 |c::r=>by
  have h:=c.toNat_lt;show(BO (AF r)).map _=_;rw[Df r];simp
def Sr:∀n,n<16->([48,49,50,51,52,53,54,55,56,57,97,98,99,100,101,102]:List UInt8)[n]?=some (OG n):=Xf
def aXv:∀n:Nat,n<256->bits .and .u8 (n:Int) 15=((n % 16:Nat):Int):=Xf
def aYt:∀n:Nat,n<256->(n:Int).fdiv (2 ^ min (4:Int).toNat IntKind.u8.bits)=((n / 16:Nat):Int):=Xf
def yX(s:List UInt8)(c:UInt8):PH (s++[c])=PH s++[OG (c.toNat / 16),OG (c.toNat % 16)]:=by simp[PH]
def CN:List (List UInt8)->Nat
 |[]=>0
 |w::r=>w.length+CN r
def Te(m:HF)(i:Id):Nat->Nat->Option (List (List UInt8))
 |0,_=>some []
 |f+1,j=>match m i j,Te m i f (j+1)with
  |some (.str p),some l=>some (p::l)
  |_,_=>none
def TS{m:HF}{i:Id}:∀{f j:Nat} {xs:List (List UInt8)},Te m i f j=some xs->xs.length=f∧∀k x,xs[k]?=some x->m i (j+k)=some (.str x)
 |0,j,xs,h=>by
  simp only[Te,Qb]at h;subst h;exact⟨rfl,U⟩
 |f+1,j,xs,h=>by
  unfold Te at h;split at h
  ·rename_i p l v n;simp only[Qb]at h;subst h;obtain⟨e,y⟩:=TS n;refine⟨by simp[e],λk x w=>?_⟩;cases k with
   |zero=>simp only[Qg,Qb]at w;subst w;exact v
   |succ k=>
    have:=y k x Xx;rw[show j+1+k=j+(k+1)by omega]at this;exact this
  ·cases h
def cW{m m':HF}{i:Id}:∀{f j n:Nat},j+f<=n->(∀o,o<n->m i o=m' i o)->Te m i f j=Te m' i f j
 |0,j,n,_,_=>rfl
 |f+1,j,n,hn,h=>by
  unfold Te;rw[h j O,cW (f:=f) (j:=j+1) O h]
def rC{m:HF}{i:Id}:∀{xs:List (List UInt8)} {j:Nat},(∀k x,xs[k]?=some x->m i (j+k)=some (.str x))->Te m i xs.length j=some xs
 |[],j,_=>rfl
 |x::r,j,h=>by
  have b:=h 0 x rfl;have q:=rC (xs:=r) (j:=j+1) (λk y s=>by have:=h (k+1) y (by simpa using s);rw[show j+1+k=j+(k+1)by omega];exact this);simp only[Qh,Te,Q8]at b ⊢;rw[b,q]
def B7:List (List UInt8)->List UInt8
 |[]=>[]
 |[w]=>w
 |w::v::r=>w++44::B7 (v::r)
def GU:∀l:List (List UInt8),(B7 l).length<=CN l+l.length
 |[]=>by simp[B7]
 |[w]=>by simp[B7,CN]
 |w::v::r=>by
  have:=GU (v::r);simp only[B7,Q6,Qh,CN]at this ⊢;omega
def Nx:∀l:List (List UInt8),Lib.join l [44]=B7 l
 |[]=>rfl
 |[w]=>Lib.join_one w [44]
 |w::v::r=>by
  have ih:=Nx (v::r);rw[Lib.join_cons]at ih;rw[Lib.join_cons,B7,←ih];simp[Lib.joinTail]
def Uz:Il where
 rd:=λds _=>match ds with
  |[.row i n,_]=>(List.range n).map λo=>(i,o)
  |_=>[]
 ex:=λds m _=>match ds with
  |[.row i n,.str [44]]=>(Te m i n 0).bind λl=>if l.length<=1000∧CN l<=1000000 then some (.str (B7 l),[])else none
  |_=>none
def aDx {P:Program} {ρ:Go.Shelf.Ren} (L:Go.Proofs.Lays.n156 P ρ) (X:Go.Proofs.Builder.Extra P ρ) (ga:∃fn,P.funcs[ρ.f 156]?=some fn∧fn.body.isSome=true∧(fn.name== "runtime.NumGoroutine")=false):Uz.ok P (ρ.f 156):=by
 refine⟨ga,λds m m' fr h=>?_,?_⟩
 ·simp only[Uz]at h ⊢;split
  ·rename_i i n;simp only at h;rw[cW (m:=m) (m':=m') (n:=n) O λo ho=>h (i,o) (QZ.2 ⟨o,by simpa using ho,rfl⟩)]
  ·rfl
 intro B w0 w m g fr ds vs r u hi ia hl da y;simp only[Uz]at y;split at y
 ·rename_i i n;rw[QC]at y;obtain⟨l,s,y⟩:=y;split at y
  ·rename_i d;obtain⟨c1,c2⟩:=d;simp only[Qb,Qs]at y;obtain⟨rfl,rfl⟩:=y
   match vs,hl with
   |[v,v1],_=>
    have h0:=da 0 _ v rfl rfl;have q:=da 1 _ v1 rfl rfl;rw[q.str_inv];obtain⟨b,c,rfl,wa,hb⟩:=h0.row_inv;obtain⟨db,e⟩:=TS s;obtain⟨mb,kb,cur,T,a,ua⟩:=hi.obj i b hb;have t:∀(j:Nat) z,l[j]?=some z->w.cell? ⟨b,0+j,none⟩=some (.string ⟨z.toArray⟩):=by
     intro j z hz;have hm:=e j z hz;rw[Qm]at hm;obtain⟨v',r1,r2,r3⟩:=ua j _ hm;rw[r3.str_inv]at r1;simp[World.cell?,a,r1]
    have k:(l.map λx=>(⟨x.toArray⟩:ByteArray)).map (·.data.toList)=l:=YB
    have hj:(⟨#[44]⟩:ByteArray).data.toList=[44]:=rfl;have fa:=GU l;have:=Go.Proofs.Any.strings_Join L X b 0 c (l.map λx=>(⟨x.toArray⟩:ByteArray)) ⟨#[44]⟩ w (λj x p=>by
     rw[QN,Ql]at p;obtain⟨z,hz,rfl⟩:=p;exact t j z hz) (hi.lt hb) Xb Xb (by rw[k,hj,Nx];omega)
    rw[k,hj,Nx,Qy,db]at this;refine this.mono ?_;rintro ev w' ⟨rfl,hb⟩;exact⟨_,g.over w w',rfl,hi.over hb,H5.over hi.gz hb,.str _,λi hf _=>hf⟩
  ·cases y
 ·cases y
section
variable{P:Program}{B:Nat}{w0:World}{N:Nat}{ns:Id}{S:HD}{t:Nat}
end
section
variable{P:Program}{S:HD}{f:FuncId}{N:Nat}{dc a b:DC}{rs:List RV}{code:Code}
end
section
variable{P:Program}{B:Nat}{w0 w:World}{m:HF}{g g0:Gh}{N:Nat}
end
section
variable{P:Program}{B:Nat}{w0:World}{N:Nat}{S:HD}
end
def B8(m:HF)(e:Nat)(nl:Bool)(t:Id)(emp:Bool):Bool:=
 if nl=true then emp else match m t 0 with
  |some (.tok k)=>k==e+1&&!t.isEmpty
  |_=>false
def Sw{m:HF}{e:Nat}{nl:Bool}{t:Id}{emp:Bool}{xs:List D}(h:B8 m e nl t emp=true):Mf m e (.slice nl t xs):=by
 unfold B8 at h;split at h
 ·rename_i b;exact .inl b
 ·split at h
  ·rename_i k n;simp only[Q3,beq_iff_eq]at h;rw[h.1]at n;exact .inr ⟨n,by intro e;rw[e]at h;simp at h⟩
  ·cases h
theorem EH{m m':HF}{e:Nat}{nl:Bool}{t:Id}{emp:Bool}(h:m t 0=m' t 0):B8 m e nl t emp=B8 m' e nl t emp:=by
 unfold B8;rw[h]
def fU{m m':HF}{e:Nat}{nl:Bool}{t:Id}{emp:Bool}{xs:List D}(h:B8 m e nl t emp=true)(n:nl=false->m t 0=some (.tok (e+1))->m' t 0=m t 0):Mf m' e (.slice nl t xs):=by
 rcases Sw (xs:=xs) h with h0|⟨u,y⟩
 ·exact .inl h0
 ·cases nl with
  |true=>exact .inl rfl
  |false=>exact .inr ⟨by rw[n rfl u];exact u,y⟩
def Fb{m:HF}{e:Nat}{nl:Bool}{t:Id}{emp:Bool}(h:B8 m e nl t emp=true):nl=false->m t 0=some (.tok (e+1)):=by
 rintro rfl;rcases Sw (xs:=[]) h with h0|⟨u,y⟩
 ·cases h0
 ·exact u
theorem Dj{m:HF}{e:Nat}{f t i:Id}{nl:Bool}{xs:List D}{o:Nat}:HN.app m (Bm e f (.slice nl t xs)) i o=if i=f∧o=0 then some (.tok (e+1))else if nl=false∧i=t∧o=0 then some (.tok 0)else m i o:=by
 cases nl<;>simp[Bm,HN.app,BV]
def toNat_ofNat{n:Nat}(h:n<256):(UInt8.ofNat n).toNat=n:=by simp[UInt8.toNat_ofNat'];omega
def Vh(n:Int):IntKind.u8.wrap n=(((n % 256).toNat:Nat):Int):=by
 have u:IntKind.u8.wrap n=n % 256:=YC
 rw[u];omega
structure Gd (e:Nat) (fr:Id) (m0:HF) (nl0:Bool) (t0:Id) (m:HF) (c:Nat) (t:Id):Prop where
 name:∃l j,t=l++j::fr∧j<c
 tok:m t 0=some (.tok (e+1))
 out:∀i o,¬fr<:+i->m i o=(if nl0=true then m0 else m0.put t0 0 [.tok 0]) i o
def Gs(e:Nat)(fr:Id)(m0:HF)(nl0:Bool)(t0:Id)(m:HF)(c:Nat)(nl:Bool)(t:Id):Prop:=
 (nl=nl0∧t=t0∧∀i o,¬fr<:+i->m i o=m0 i o)∨(nl=false∧Gd e fr m0 nl0 t0 m c t)
def lG(l:List Nat)(j:Nat)(fr:Id):fr<:+l++j::fr:=⟨l++[j],U⟩
theorem aVH{l f:List Nat}{j k:Nat}{fr:Id}(h:j≠k):l++j::fr≠f++k::fr:=by
 intro e;have m:=congrArg List.reverse e;simp only[List.reverse_append,List.reverse_cons,Zc,List.append_cancel_left_eq]at m;simp only[Zd,Q_,Qn]at m;exact h m.1
section
variable{e:Nat}{fr:Id}{m0 m:HF}{nl0 nl:Bool}{t0 t:Id}{c c' k o:Nat}{l:List Nat}{xs ds:List D}{emp:Bool}
def Gs.start:Gs e fr m0 nl0 t0 m0 c nl0 t0:= .inl ⟨rfl,rfl,λ_ _ _=>rfl⟩
def Gd.gs(h:Gd e fr m0 nl0 t0 m c t):Gs e fr m0 nl0 t0 m c false t:= .inr ⟨rfl,h⟩
def Gd.more(h:Gd e fr m0 nl0 t0 m c t)(d:c<=c'):Gd e fr m0 nl0 t0 m c' t:=⟨by obtain⟨l,j,b,z⟩:=h.name;exact⟨l,j,b,O⟩,h.tok,h.out⟩
def Gs.more(h:Gs e fr m0 nl0 t0 m c nl t)(d:c<=c'):Gs e fr m0 nl0 t0 m c' nl t:=h.imp id (λ⟨a,b⟩=>⟨a,b.more d⟩)
def rZ(j:∀i o,fr<:+i->m0 i o=none)(h:m0 t0 0=some (.tok (e+1))):¬fr<:+t0:=λk=>by rw[j _ _ k]at h;cases h
def VM(i:Id)(o':Nat)(hi:¬fr<:+i):m.put (l++k::fr) o ds i o'=m i o':=aA (λe=>hi (e▸lG l k fr))
def Gd.put(h:Gd e fr m0 nl0 t0 m c t)(g:c<=k:=by omega):Gd e fr m0 nl0 t0 (m.put (l++k::fr) o ds) c t:=by
 refine⟨h.name,?_,λi o' hi=>(VM i o' hi).trans (h.out i o' hi)⟩;obtain⟨f,j,b,z⟩:=h.name;rw[aA]
 ·exact h.tok
 ·grind [aVH]
def Gs.put(h:Gs e fr m0 nl0 t0 m c nl t)(g:c<=k:=by omega):Gs e fr m0 nl0 t0 (m.put (l++k::fr) o ds) c nl t:=by
 rcases h with ⟨a,b,d⟩|⟨a,h⟩
 ·exact .inl ⟨a,b,λi o' hi=>(VM i o' hi).trans (d i o' hi)⟩
 ·exact .inr ⟨a,h.put g⟩
def Gs.grow(h:Gs e fr m0 nl0 t0 m c nl t)(y:∀i o,fr<:+i->m0 i o=none)(q:B8 m0 e nl0 t0 emp=true):Mf m e (.slice nl t xs):=by
 rcases h with ⟨rfl,rfl,d⟩|⟨a,h⟩
 ·exact fU q (λv n=>d _ _ (rZ y n))
 ·obtain⟨f,j,b,z⟩:=h.name;exact .inr ⟨h.tok,by rw[b];simp⟩
def Gs.nil(h:Gs e fr m0 nl0 t0 m c nl t)(b:B8 m0 e nl0 t0 emp=true):nl=true->emp=true:=by
 rcases h with ⟨rfl,rfl,d⟩|⟨a,_⟩
 ·grind [B8]
 ·rw[a];intro h;cases h
def Gs.app(h:Gs e fr m0 nl0 t0 m c nl t)(g:c<=k)(f:k<c'):Gd e fr m0 nl0 t0 (HN.app m (Bm e (l++k::fr) (.slice nl t xs))) c' (l++k::fr):=by
 refine⟨⟨l,k,rfl,f⟩,by rw[Dj,if_pos ⟨rfl,rfl⟩],λi o hi=>?_⟩;have p:i≠l++k::fr:=λe=>hi (e▸lG l k fr)
 rw[Dj,if_neg (λx=>p x.1)];rcases h with ⟨rfl,rfl,d⟩|⟨rfl,h⟩
 ·grind [BV]
 ·obtain⟨u,j,b,z⟩:=h.name;have s:i≠t:=λe=>hi (by rw[e,b];exact lG u j fr)
  rw[if_neg (λx=>s x.2.1)];exact h.out i o hi
def Gd.fin(h:Gd e fr m0 nl0 t0 m c t)(j:∀i o,fr<:+i->m0 i o=none)(b:B8 m0 e nl0 t0 emp=true):∀i o x,HN.app m0 (Bm e t (.slice nl0 t0 xs)) i o=some x->m i o=some x:=by
 intro i o x p;rw[Dj]at p;by_cases u:i=t∧o=0
 ·rw[if_pos u]at p;rw[u.1,u.2,h.tok];exact p
 ·rw[if_neg u]at p;by_cases y:nl0=false∧i=t0∧o=0
  ·obtain⟨rfl,rfl,rfl⟩:=y;rw[if_pos ⟨rfl,rfl,rfl⟩]at p;rw[h.out _ _ (rZ j (Fb b rfl)),if_neg U,BV,if_pos ⟨rfl,rfl⟩];exact p
  ·rw[if_neg y]at p;by_cases hi:fr<:+i
   ·simp_all
   ·rw[h.out i o hi];cases nl0 with
    |true=>exact p
    |false=>simp only[QS,if_false,BV];rw[if_neg (λx=>y ⟨rfl,x⟩)];exact p
end
def LW{P:Program}{S:HD}{f:FuncId}{N:Nat}{dc:DC}{rs:List RV}(hS:HD.ok P S)(b:Fn P f N dc rs){q:Il}(z:∀ds m m' fr,(∀l∈q.rd ds m,m l.1 l.2=m' l.1 l.2)->q.ex ds m fr=q.ex ds m' fr)
  (hq:∀ds m fr r u,q.ex ds m fr=some (r,u)->(∀i o,fr<:+i->m i o=none)->ds.length<=N∧dc.wp S fr (Eo rs λd m'=>d=r∧∀i o x,HN.app m u i o=some x->m' i o=some x) ⟨BQ ds,m,0⟩):q.ok P f:=by
 obtain⟨fn,ca,h1,h2,h3,a,p,h6⟩:=b.is;refine⟨⟨fn,h1,by rw[h2];rfl,h3⟩,z,?_⟩;intro B w0 w m g fr ds vs r u hi t hl c y;have j:∀k i,(k::fr)<:+i->B3 m g i:=λk i h=>t i ((QI k fr).trans h)
 obtain⟨hN,za⟩:=hq ds m fr r u y (λi o h=>(t i h).1 o);have s:=Ha (ns:=fr) hS b hN hi j hl c za;refine s.mono ?_;rintro e w' ⟨v,d,m',g',rfl,n,ma,oa,ab,rfl,sa⟩;refine⟨v,g',rfl,n.less sa,ma,ab,λi b hn=>?_⟩;obtain⟨k1,k2,k3⟩:=oa i b hn;refine⟨λo=>?_,k2,k3⟩;cases hx:HN.app m u i o with
 |none=>rfl
 |some x=>exact absurd (k1 o) (by rw[sa i o x hx];simp)
def gQ(e:Nat)(F:List D->Option (List D×List Nat)):Il where
 rd:=λds _=>match ds with
  | .slice _ t _::_=>[(t,0)]
  |_=>[]
 ex:=λds m fr=>match ds with
  | .slice nl t xs::rest=>if B8 m e nl t xs.isEmpty=true∧xs.length<=100000000 then(F rest).map λy=>(.slice false (y.2++fr) (xs++y.1),Bm e (y.2++fr) (.slice nl t xs))else none
  |_=>none
def aRW{e:Nat}{F:List D->Option (List D×List Nat)}(ds:List D)(m m':HF)(fr:Id)(h:∀l∈(gQ e F).rd ds m,m l.1 l.2=m' l.1 l.2):(gQ e F).ex ds m fr=(gQ e F).ex ds m' fr:=by
 simp only[gQ]at h ⊢;split
 ·rename_i nl t xs r;rw[EH (h (t,0) U)]
 ·rfl
def aRX{e:Nat}{F:List D->Option (List D×List Nat)}{ds:List D}{m:HF}{fr:Id}{d:D}{u:HN}(h:(gQ e F).ex ds m fr=some (d,u)):
  ∃nl t xs r ys l,ds= .slice nl t xs::r∧B8 m e nl t xs.isEmpty=true∧xs.length<=100000000∧F r=some (ys,l)∧d= .slice false (l++fr) (xs++ys)∧u=Bm e (l++fr) (.slice nl t xs):=by
 simp only[gQ]at h;split at h
 ·rename_i nl t xs r;split at h
  ·rename_i g;rw[Ql]at h;obtain⟨⟨ys,l⟩,z,h⟩:=h;simp only[Qs]at h;exact⟨nl,t,xs,r,ys,l,rfl,g.1,g.2,z,h.1.symm,h.2.symm⟩
  ·cases h
 ·cases h
def aM0{e:Nat}{F:List D->Option (List D×List Nat)}{m:HF}{fr:Id}{nl:Bool}{t:Id}{xs r ys:List D}{l:List Nat}{K:D×HN->Prop}{g}(h0:Mf m e (.slice nl t xs))(w:nl=true->xs=[])(hl:xs.length<=100000000)(z:F r=some (ys,l))
  (h:K (.slice false (l++fr) (xs++ys),Bm e (l++fr) (.slice nl t xs))):H4 ((gQ e F).ex (.slice nl t xs::r) m fr) K g:=by
 refine aI ?_ h;have a:B8 m e nl t xs.isEmpty=true:=by
  unfold B8;cases nl with
  |true=>rw[if_pos rfl,w rfl];rfl
  |false=>
   rcases h0 with h0|⟨u,y⟩
   ·cases h0
   ·simp_all
 simp only[gQ];rw[if_pos ⟨a,hl⟩,z];rfl
def bX:Nat->Int->List UInt8
 |0,_=>[]
 |k+1,n=>UInt8.ofNat ((n.fdiv (2 ^ (8*k))) % 256).toNat::bX k n
theorem Hw:∀k n,(bX k n).length=k
 |0,_=>rfl
 |k+1,n=>by simp[bX,Hw k n]
def Ho:D->Bool
 | .int .u8 _=>true
 |_=>false
def grownQ:Il where
 rd:=λ_ _=>[]
 ex:=λds _ fr=>match ds with
  |[.slice _ _ xs,.int .i64 k]=>if 0<=k∧xs.all Ho=true∧(xs.length:Int)+k<=140737488355328 then some (.slice false (0::fr) xs,[(0::fr,0,[.tok 6])])else none
  |_=>none
def cQ(e:Nat)(c:D->D)(F:List D->Option (List D×List Nat)):Il where
 rd:=λ_ _=>[]
 ex:=λds _ fr=>match ds with
  | .slice _ _ xs::rest=>if xs.all Ho=true∧xs.length<=100000000 then(F rest).map λy=>(c (.slice false (y.2++fr) (xs++y.1)),[(y.2++fr,0,[.tok (e+1)])])else none
  |_=>none
def aSm{e:Nat}{c:D->D}{F:List D->Option (List D×List Nat)}{ds:List D}{m:HF}{fr:Id}{d:D}{u:HN}(h:(cQ e c F).ex ds m fr=some (d,u)):
  ∃nl t xs r ys l,ds= .slice nl t xs::r∧xs.all Ho=true∧xs.length<=100000000∧F r=some (ys,l)∧d=c (.slice false (l++fr) (xs++ys))∧u=[(l++fr,0,[.tok (e+1)])]:=by
 simp only[cQ]at h;split at h
 ·rename_i nl t xs r;split at h
  ·rename_i g;rw[Ql]at h;obtain⟨⟨ys,l⟩,z,h⟩:=h;simp only[Qs]at h;exact⟨nl,t,xs,r,ys,l,rfl,g.1,g.2,z,h.1.symm,h.2.symm⟩
  ·cases h
 ·cases h
def aM1{e:Nat}{c:D->D}{F:List D->Option (List D×List Nat)}{m:HF}{fr:Id}{nl:Bool}{t:Id}{xs r ys:List D}{l:List Nat}{K:D×HN->Prop}{g}(x:xs.all Ho=true)(hl:xs.length<=100000000)(z:F r=some (ys,l))
  (h:K (c (.slice false (l++fr) (xs++ys)),[(l++fr,0,[.tok (e+1)])])):H4 ((cQ e c F).ex (.slice nl t xs::r) m fr) K g:=by
 refine aI ?_ h;simp only[cQ];rw[if_pos ⟨x,hl⟩,z];rfl
def UV(a:List UInt8):(AF a).all Ho=true:=by
 rw[Qt];intro x p;obtain⟨c,_,rfl⟩:=QZ.1 p;rfl
def Gd.finc{e:Nat}{fr:Id}{m0 m:HF}{t0 t:Id}{c:Nat}(h:Gd e fr m0 true t0 m c t)(j:∀i o,fr<:+i->m0 i o=none):∀i o x,HN.app m0 [(t,0,[.tok (e+1)])] i o=some x->m i o=some x:=
 h.fin (emp:=true) (xs:=[]) j (by unfold B8;rfl)
def aDQ{m:HF}{fr:Id}{nl:Bool}{t:Id}{xs:List D}{k:Int}(g:0<=k)(x:xs.all Ho=true)(hl:(xs.length:Int)+k<=140737488355328):grownQ.ex [.slice nl t xs,.int .i64 k] m fr=some (.slice false (0::fr) xs,[(0::fr,0,[.tok 6])]):=by
 grind [grownQ]
def E4{n:Int}(h:0<=n)(c:n<18446744073709551616):IntKind.u64.wrap n=n:=by
 have:IntKind.u64.wrap n=n % 18446744073709551616:=YC
 rw[this];omega
def aIA(d:D):D:= .tup [d,.int .i64 0]
def mQ(n:Nat)(F:List D->List D->Option (D×List D)):Il where
 rd:=λds _=>match ds with
  | .ptr i 0::_=>Ai i 0 n
  |_=>[]
 ex:=λds m _=>match ds with
  | .ptr i 0::rest=>match Ag m i 0 n with
   |some cs=>(F cs rest).map λy=>(y.1,[(i,0,y.2)])
   |none=>none
  |_=>none
def aQM{n:Nat}{F:List D->List D->Option (D×List D)}(ds:List D)(m m':HF)(fr:Id)(h:∀l∈(mQ n F).rd ds m,m l.1 l.2=m' l.1 l.2):(mQ n F).ex ds m fr=(mQ n F).ex ds m' fr:=by
 grind [mQ,BN]
def VY{n:Nat}{F:List D->List D->Option (D×List D)}{i:Id}{m:HF}{r:List D}{fr:Id}:(mQ n F).ex (.ptr i 0::r) m fr=(Ag m i 0 n).bind λcs=>(F cs r).map λy=>(y.1,[(i,0,y.2)]):=by
 grind [mQ,Ag]
def aQN{n:Nat}{F:List D->List D->Option (D×List D)}{ds:List D}{m:HF}{fr:Id}{r:D}{u:HN}(h:(mQ n F).ex ds m fr=some (r,u)):
  ∃i w cs c,ds= .ptr i 0::w∧Ag m i 0 n=some cs∧F cs w=some (r,c)∧u=[(i,0,c)]:=by
 simp only[mQ]at h;split at h
 ·rename_i i w;split at h
  ·rename_i cs o;rw[Ql]at h;obtain⟨y,z,h⟩:=h;simp only[Qs]at h;obtain⟨rfl,rfl⟩:=h;exact⟨i,w,cs,y.2,rfl,o,z,rfl⟩
  ·cases h
 ·cases h
section
variable{m m':HF}{i j:Id}{n o k:Nat}{cs ys:List D}{d:D}{fr:Id}
def Bf(h:Ag m i 0 n=some cs)(z:cs[k]?=some d):m i k=some d:=by
 grind [BM]
def VD:∀{ds:List D} {m:HF} {p:Nat},(∀k d,ds[k]?=some d->m i (p+k)=some d)->Ag m i p ds.length=some ds
 |[],m,p,_=>rfl
 |x::r,m,p,h=>by
  have b:=h 0 x rfl;rw[Q8]at b;have u:=VD (ds:=r) (m:=m) (p:=p+1) (λk d z=>by
   have:=h (k+1) d Xw;rw[show p+(k+1)=p+1+k by omega]at this;exact this)
  simp only[Ag,Qh,b,u,QO]
def lT(h:Ag m i 0 n=some cs)(g:o+k<=n):Ag m i o k=some ((cs.drop o).take k):=by
 obtain⟨u,y⟩:=BM h;have hl:((cs.drop o).take k).length=k:=YN
 have:=VD (i:=i) (m:=m) (p:=o) (ds:=(cs.drop o).take k) (λq d z=>by
  rw[Zw]at z;split at z
  ·grind
  ·cases z)
 rw[hl]at this;exact this
def lU(h:Ag m i 0 n=some cs)(g:o+ys.length<=n):Ag (m.put i o ys) i 0 n=some (cs.take o++ys++cs.drop (o+ys.length)):=by
 obtain⟨u,y⟩:=BM h;have hl:(cs.take o++ys++cs.drop (o+ys.length)).length=n:=by simp only[Q6,List.length_take,ZA];omega
 have:=VD (i:=i) (m:=m.put i o ys) (p:=0) (ds:=cs.take o++ys++cs.drop (o+ys.length)) (λq d z=>by
  rw[Qm];simp only[HF.put];have a:(cs.take o).length=o:=Xu
  by_cases j:q<o
  ·have s:¬(True∧o<=q∧q<o+ys.length):=by omega
   first
    |rw[if_neg Xb]
    |skip
   rw[Zc,QU O,Zw,if_pos j]at z;exact Bf h z
  ·by_cases f:q<o+ys.length
   ·rw[if_pos Xb];rw[Zc,Q2 O,a,QU O]at z;exact z
   ·rw[if_neg Xb];rw[Zc,Q2 O,a,Q2 O,List.getElem?_drop]at z;rw[show o+ys.length+(q-o-ys.length)=q by omega]at z;exact Bf h z)
 rw[hl]at this;exact this
def FO(n:Nat)(i:Id)(m m':HF):Prop:=∀(j:Id)(o:Nat)(x:D),(j≠i∨n<=o)->m j o=some x->m' j o=some x
def FO.refl:FO n i m m:=λ_ _ _ _ h=>h
def FO.own(h:FO n i m m')(v:o+ys.length<=n):FO n i m (m'.put i o ys):=λj p x z w=>by
 have u:=h j p x z w;simp only[HF.put];split
 ·grind
 ·exact u
def FO.new(y:∀i o,fr<:+i->m i o=none)(l:List Nat)(h:FO n i m m'):FO n i m (m'.put (l++k::fr) o ys):=λj p x z w=>by
 have u:=h j p x z w;have t:j≠l++k::fr:=λe=>by
  rw[e,y _ _ ⟨l++[k],U⟩]at w;cases w
 rw[aA t];exact u
def bH(j:∀i o,fr<:+i->m i o=none)(h:FO n i m m'):FO n i m (m'.put (k::fr) o ys):=FO.new j [] h
end
theorem aYQ {P : Program} {S : HD} {f : FuncId} {N : Nat} {dc : DC} {rs : List RV} (hS : HD.ok P S) (hf : Fn P f N dc rs) {n : Nat} {F : List D → List D → Option (D × List D)} (hn : 0 < n) (hN : ∀ cs w y, F cs w = some y → w.length + 1 ≤ N)
  (h : ∀ (i : Id) (m : HF) (fr : Id) (cs w : List D) (r : D) (da : List D), Ag m i 0 n = some cs → F cs w = some (r, da) → (∀ j o, fr <:+ j → m j o = none) → (∀ k l, (i = l ++ k :: fr) = False) → (∀ k, (i = k :: fr) = False) →
   dc.wp S fr (Eo rs fun d m' => d = r ∧ Ag m' i 0 n = some da ∧ FO n i m m') ⟨BQ (.ptr i 0 :: w), m, 0⟩) : (mQ n F).ok P f := by
 refine LW hS hf aQM (fun ds m fr r u z s => ?_)
 obtain ⟨i, w, cs, da, rfl, ra, hF, rfl⟩ := aQN z
 have va : ∃ x, m i 0 = some x := by
  obtain ⟨q, v⟩ := BM ra
  have := v 0 hn
  rw [Qc O] at this
  exact ⟨_, this⟩
 obtain ⟨x0, b⟩ := va
 have ja : ∀ k l, (i = l ++ k :: fr) = False := fun k l => eq_false (fun e => by
  rw [e, s _ _ ⟨l ++ [k], U⟩] at b
  cases b)
 refine ⟨hN _ _ _ hF, ?_⟩
 have hw := h i m fr cs w r da ra hF s ja (fun k => ja k [])
 refine M_ hw (fun e g he => ?_)
 obtain ⟨c, d, ga, rfl, oa, ho⟩ := he
 refine ⟨c, d, ga, rfl, fun j o x p => ?_⟩
 obtain ⟨q, v⟩ := BM oa
 have pa : (m.put i 0 da) j o = some x := p
 by_cases hj : j = i
 ·subst hj
  by_cases a : o < n
  ·grind [HF.put]
  ·have t : m j o = some x := by
    simp only [HF.put] at pa
    rw [if_neg (by simp; omega)] at pa
    exact pa
   exact ho j o x (.inr O) t
 ·rw [aA hj] at pa
  exact ho j o x (.inl hj) pa
section
variable{α:Type}{mk:α->List D}{ok:α->Prop}{res:α->D}
open Classical in
def FX(mk:α->List D)(ok:α->Prop)(res:α->D):List D->Option D:=λds=>if h:∃a,ok a∧mk a=ds then some (res (Classical.choose h))else none
def Ca(inj:∀a b,mk a=mk b->a=b){a:α}(x:ok a):FX mk ok res (mk a)=some (res a):=by
 have h:∃b,ok b∧mk b=mk a:=⟨a,x,rfl⟩;unfold FX;rw[dif_pos h,inj _ _ (Classical.choose_spec h).2]
def CV{ds:List D}{r:D}(h:FX mk ok res ds=some r):∃a,ok a∧mk a=ds∧res a=r:=by
 unfold FX at h;split at h
 ·grind
 ·cases h
def C8{P:Program}{S:HD}{f:FuncId}{N:Nat}{b:DC}{rs:List RV}(g:HD.ok P S)(k:Fn P f N b rs)(q:∀a,(mk a).length<=N)
  (z:∀a,ok a->b.wp S [] (Eo rs λd _=>d.unR=res a∧(res a).calmR=true) ⟨BQ (mk a),λ_ _=>none,0⟩):(Ac (FX mk ok res)).ok P f:=by
 refine AO g k (λds r h=>?_) (λds r h=>?_)
 ·obtain⟨a,_,rfl,_⟩:=CV h;exact q a
 ·obtain⟨a,x,rfl,rfl⟩:=CV h;exact z a x
end
def mkJ(p:List (List UInt8)×List UInt8):List D:=[.slice false [] (p.1.map .str),.str p.2]
def aJc(x y:List (List UInt8)×List UInt8)(e:mkJ x=mkJ y):x=y:=by
 simp only[mkJ,Qn,D.slice.injEq,D.str.injEq,true_and,and_true]at e;exact ZR ((List.map_inj_right (λa b h=>Xr)).1 e.1) e.2
def aNc:∀l:List (List UInt8),flat (l.map D.str)=l.map D.str
 |[]=>rfl
 |x::r=>by
  have ih:=aNc r;simp only[Q0,flat,ih];rfl
def fM:List D->Option D:=FX mkJ (λp=>p.1≠[]∧p.1.length<=1000∧CN p.1<=1000000∧p.2.length<=1000∧(Lib.join p.1 p.2).length<=10000000) (λp=> .str (Lib.join p.1 p.2))
def aDy {P:Program} {ρ:Go.Shelf.Ren} (L:Go.Proofs.Lays.n156 P ρ) (X:Go.Proofs.Builder.Extra P ρ) (ga:∃fn,P.funcs[ρ.f 156]?=some fn∧fn.body.isSome=true∧(fn.name== "runtime.NumGoroutine")=false):(Ac fM).ok P (ρ.f 156):=by
 refine⟨ga,λds m m' fr _=>rfl,?_⟩;intro B w0 w m g fr ds vs r u hi ia hl da y;simp only[Ac]at y;split at y
 ·rename_i la;rw[Ql]at y;obtain⟨r',hr,y⟩:=y;simp only[Qs]at y;obtain⟨rfl,rfl⟩:=y;obtain⟨⟨l,s⟩,⟨q,h2,h3,h4,h5⟩,h,rfl⟩:=CV hr;simp only at q h2 h3 h4 h5;have ba:∀(j:Nat) d v,(mkJ (l,s))[j]?=some d->vs[j]?=some v->Rep w g d v:=by
   intro j d v hd hv;rw[h,QN,Ql]at hd;obtain⟨d',ra,rfl⟩:=hd;exact(da j d' v ra hv).un
  have ca:ds.length=2:=by
   have:=congrArg ZQ h;simpa[mkJ]using this.symm
  match vs,hl.trans ca with
  |[v,v1],_=>
   have r0:=ba 0 _ v rfl rfl;have r1:=ba 1 _ v1 rfl rfl;rw[r1.str_inv];obtain⟨ad,n,c,sz,ws,rfl,hn,wa,ka,ta,p,oa,_⟩:=r0.slice_list;have ja:n=l.length:=by simpa using hn
   subst ja;have ob:sz=1:=by
    cases l with
    |nil=>exact absurd rfl q
    |cons x r=>exact(ka (.str x) U).symm
   subst ob;have na:=aNc l;rw[na]at p;have t:∀(j:Nat) z,l[j]?=some z->w.cell? (ad.add j)=some (.string ⟨z.toArray⟩):=by
    intro j z hz;have hj:j<l.length:=(Qq.1 hz).1;have k:j<ws.length:=by rw[ta];omega
    have hd:(l.map D.str)[j]?=some (.str z):=by rw[QN,hz];rfl
    have:=p.2.2 j (.str z) ws[j] hd (Qc k);rw[oa j ws[j] (Qc k),this.str_inv]
   obtain⟨b,off,xa⟩:=ad;have va:0<l.length:=List.length_pos_iff.2 q;have o:=t 0 _ (Qc va);have e:xa=none:=by simpa[Addr.add]using World.cell?_spot o
   subst e;have a:b<w.heap.size:=by simpa[Addr.add]using World.block_lt_of_cell? _ _ o
   have ea:(l.map λx=>(⟨x.toArray⟩:ByteArray)).map (·.data.toList)=l:=YB
   have hj:(⟨s.toArray⟩:ByteArray).data.toList=s:=rfl;have:=Go.Proofs.Any.strings_Join L X b off c (l.map λx=>(⟨x.toArray⟩:ByteArray)) ⟨s.toArray⟩ w (λj x hx=>by
    rw[QN,Ql]at hx;obtain⟨z,hz,rfl⟩:=hx;have:=t j z hz;rw[Gk]at this;exact this) a Xb Xb (by rw[ea,hj];omega)
   rw[ea,hj,Qy]at this;refine this.mono ?_;rintro ev w' ⟨rfl,hb⟩;exact⟨_,g.over w w',rfl,hi.over hb,H5.over hi.gz hb,.str _,λi hf _=>hf⟩
 ·cases y
section
variable{α:Type}{mk:α->List D×List D}{ok:α->Prop}{res:α->D×List D}
end
section
variable{α:Type}{mk:α->List D×List D}{ok:α->Prop}{res:α->D×Id×(Id->List D)}
end
def aQS{R:St->Ex->St->Prop}(x:∀v m i z g,R v m i->R v z g->m=z∧i=g):∀{n1 v m i},Lp R n1 v m i->∀{n2 z g},Lp R n2 v z g->m=z∧i=g:=by
 intro n1 v m i u;induction u with
 |stop v e q h p=>
  intro n2 z g y;cases y with
  |stop _ _ _ c _=>exact x _ _ _ _ _ h c
  |more n _ t _ _ c _=>exact absurd (x _ _ _ _ _ h c).1 p
 |more n v t e q h hl ih=>
  intro n2 z g y;cases y with
  |stop _ _ _ c p=>exact absurd (x _ _ _ _ _ h c).1.symm p
  |more r _ o _ _ c d=>
   have:=(x _ _ _ _ _ h c).2;subst this;exact ih d
def aR2{S:HD}{ns:Id}:∀{w:DC} {v:St} {m:Ex} {t:St} {n:Ex} {g:St},Ev S ns w v m t->Ev S ns w v n g->m=n∧t=g:=by
 intro w;induction w with
 |skip=>rintro v m t n g ⟨rfl,rfl⟩ ⟨rfl,rfl⟩;exact⟨rfl,rfl⟩
 |ret=>rintro v m t n g ⟨rfl,rfl⟩ ⟨rfl,rfl⟩;exact⟨rfl,rfl⟩
 |exit i=>rintro v m t n g ⟨rfl,rfl⟩ ⟨rfl,rfl⟩;exact⟨rfl,rfl⟩
 |row ops=>
  rintro v m ⟨a1,x,c1⟩ n ⟨o,j,c2⟩ ⟨rfl,u,z⟩ ⟨rfl,y,k⟩;rw[u]at y;simp only[Qb,Qs]at y;simp only at z k;exact⟨rfl,by rw[y.1,y.2,z,k]⟩
 |drawn ops ps=>
  rintro v m ⟨a1,x,c1⟩ n ⟨o,j,c2⟩ ⟨rfl,⟨f1,u,_⟩,z⟩ ⟨rfl,⟨f2,y,_⟩,k⟩;rw[u]at y;simp only[Qb,Qs]at y;simp only at z k;exact⟨rfl,by rw[y.1,y.2.1,z,k]⟩
 |seq a b e d=>
  rintro v m t n g ⟨x1,y1,u,s⟩ ⟨p,y2,y,k2⟩;obtain⟨rfl,rfl⟩:=e u y;rcases s with ⟨n1,s⟩|⟨n1,rfl,rfl⟩<;>rcases k2 with ⟨n2,k2⟩|⟨n2,rfl,rfl⟩
  ·exact d s k2
  ·exact absurd n1 n2
  ·exact absurd n2 n1
  ·exact Y6
 |cond c a b e d=>
  rintro v m t n g u y;rcases u with ⟨q,u⟩|⟨q,u⟩<;>rcases y with ⟨f,y⟩|⟨f,y⟩
  ·exact e u y
  ·rw[q]at f;simp at f
  ·rw[q]at f;simp at f
  ·exact d u y
 |block i c ih=>
  rintro v m t n g ⟨x1,u,s⟩ ⟨p,y,k2⟩;obtain⟨rfl,rfl⟩:=ih u y;rcases s with ⟨n1,rfl⟩|⟨n1,rfl⟩<;>rcases k2 with ⟨n2,rfl⟩|⟨n2,rfl⟩
  ·exact Y6
  ·exact absurd n1 n2
  ·exact absurd n2 n1
  ·exact Y6
 |loop c ih=>
  rintro v m t n g ⟨n1,u⟩ ⟨n2,y⟩;exact aQS (R:=Ev S ns c) (λv m t n g h r=>@ih v m t n g h r) u y
def SF{S:HD}{ns:Id}{b:DC}{rs:List RV}{f s:D->HF->Prop}{v:St}(u:b.wp S ns (Eo rs f) v)(y:b.wp S ns (Eo rs s) v):∃d m,f d m∧s d m:=by
 obtain⟨c,i,a,_,o,j,e⟩:=u;obtain⟨n,g,v2,_,p,z,k⟩:=y;obtain⟨rfl,rfl⟩:=aR2 a v2;rw[j]at z;simp only[Qb]at z;subst z;exact⟨_,_,e,k⟩
def aBV(S:HD)(b:DC)(rs:List RV)(N:Nat)(ds:List D)(r:D):Prop:=ds.length<=N∧b.wp S [] (Eo rs λd _=>d.unR=r∧r.calmR=true) ⟨BQ ds,λ_ _=>none,0⟩
open Classical in
def RF(S:HD)(b:DC)(rs:List RV)(N:Nat):List D->Option D:=λds=>if h:∃r,aBV S b rs N ds r then some (Classical.choose h)else none
def aB9{S:HD}{b:DC}{rs:List RV}{N:Nat}{ds:List D}{r:D}(h:RF S b rs N ds=some r):aBV S b rs N ds r:=by
 unfold RF at h;split at h
 ·grind
 ·cases h
def Am{S:HD}{b:DC}{rs:List RV}{N:Nat}{ds:List D}{r:D}(q:ds.length<=N)(h:b.wp S [] (Eo rs λd _=>d.unR=r∧r.calmR=true) ⟨BQ ds,λ_ _=>none,0⟩):RF S b rs N ds=some r:=by
 have p:∃r,aBV S b rs N ds r:=⟨r,q,h⟩;unfold RF;rw[dif_pos p];obtain⟨d,_,u,y⟩:=SF (Classical.choose_spec p).2 h;rw[←u.1,y.1]
def An{P:Program}{S:HD}{f:FuncId}{N:Nat}{b:DC}{rs:List RV}(k:Fn P f N b rs)(g:HD.ok P S):(Ac (RF S b rs N)).ok P f:=
 AO g k (λds r h=>(aB9 h).1) (λds r h=>(aB9 h).2)
theorem Ib{m:HF}{i:Id}{ds:List D}{n:Nat}(h:ds.length=n):Ag (m.put i 0 ds) i 0 n=some ds:=by
 subst h;exact VD (λk d z=>by rw[aE (Qq.1 z).1,z])
def BX{S:HD}{ns:Id}{b:DC}{Q:Ex->St->Prop}{n:Nat}{I:Nat->St->Prop}(k:∀j,j<n->(∀v g,I (j+1) v->A9 S ns b Q v g)->∀v g,I j v->A9 S ns b Q v g)(c:∀v g,I n v->A9 S ns b Q v g):∀j,j<=n->∀v g,I j v->A9 S ns b Q v g:=by
 have y:∀f j,n=j+f->∀v g,I j v->A9 S ns b Q v g:=by
  intro f;induction f with
  |zero=>
   intro j z v g e;have:j=n:=O
   subst this;exact c v g e
  |succ f ih=>intro j z v g e;exact k j O (λv g h=>ih (j+1) O v g h) v g e
 exact λj z=>y (n-j) j O
def aBU(S:HD)(b:DC)(rs:List RV)(N n:Nat)(cs r:List D)(y:D×List D):Prop:=cs.length=n∧r.length+1<=N∧∀(i:Id)(m:HF)(fr:Id),Ag m i 0 n=some cs->(∀j o,fr<:+j->m j o=none)->(∀k l,(i=l++k::fr)=False)->(∀k,(i=k::fr)=False)->
 b.wp S fr (Eo rs λd m'=>d=y.1∧Ag m' i 0 n=some y.2∧FO n i m m') ⟨BQ (.ptr i 0::r),m,0⟩
def aIZ(cs:List D)(n:Nat)(hl:cs.length=n)(w:0<n):∃m:HF,Ag m [0] 0 n=some cs∧(∀j o,[1]<:+j->m j o=none)∧(∀k l,(([0]:Id)=l++k::[1])=False)∧(∀k,(([0]:Id)=k::[1])=False):=by
 refine⟨HF.put (λ_ _=>none) [0] 0 cs,Ib hl,λj o z=>?_,λk l=>eq_false (λe=>?_),λk=>eq_false (λe=>by simp at e)⟩
 ·rw[aA];rintro rfl;obtain⟨t,v⟩:=z;have:=congrArg ZK v;simp at this
 ·have:=congrArg ZK e;simp at this
open Classical in
def RM(S:HD)(b:DC)(rs:List RV)(N n:Nat):List D->List D->Option (D×List D):=λcs r=>if h:∃y,aBU S b rs N n cs r y then some (Classical.choose h)else none
def aB6{S:HD}{b:DC}{rs:List RV}{N n:Nat}{cs r:List D}{y:D×List D}(h:RM S b rs N n cs r=some y):aBU S b rs N n cs r y:=by
 unfold RM at h;split at h
 ·grind
 ·cases h
def aUf{S:HD}{b:DC}{rs:List RV}{N n:Nat}{cs r:List D}{y:D×List D}(w:0<n)(hl:cs.length=n)(q:r.length+1<=N) (h:∀(i:Id)(m:HF)(fr:Id),Ag m i 0 n=some cs->(∀j o,fr<:+j->m j o=none)->(∀k l,(i=l++k::fr)=False)->(∀k,(i=k::fr)=False)->
  b.wp S fr (Eo rs λd m'=>d=y.1∧Ag m' i 0 n=some y.2∧FO n i m m') ⟨BQ (.ptr i 0::r),m,0⟩):RM S b rs N n cs r=some y:=by
 have p:∃y,aBU S b rs N n cs r y:=⟨y,hl,q,h⟩;unfold RM;rw[dif_pos p];obtain⟨m,a,e,x,c⟩:=aIZ cs n hl w;obtain⟨d,m',u,f⟩:=SF ((Classical.choose_spec p).2.2 [0] m [1] a e x c) (h [0] m [1] a e x c);have v:=u.1.symm.trans f.1;have z:=u.2.1.symm.trans f.2.1;simp only[Qb]at z;rw[show Classical.choose p=y from ZR v z]
def aUe{P:Program}{S:HD}{f:FuncId}{N n:Nat}{b:DC}{rs:List RV}(k:Fn P f N b rs)(x:0<n)(g:HD.ok P S):(mQ n (RM S b rs N n)).ok P f:=by
 refine aYQ g k x (λcs w y s=>(aB6 s).2.1) (λi m fr cs w r c o z j u v=>?_);exact(aB6 z).2.2 i m fr o j u v
end Go.Vd
namespace Go.Vd
open Go.Proofs Go.RowKit
def aVk{x:D}{l:List D}{n:Nat}:(x::l).take (n+1)=x::l.take n:=rfl
def aVl{l:List D}:l.take 0=[]:=rfl
def aVA{l:List D}:l.drop 0=l:=rfl
def aVz{x:D}{l:List D}{n:Nat}:(x::l).drop (n+1)=l.drop n:=rfl
def aYJ{x:D}{f:D->Option (List D)}:(some x).bind f=f x:=rfl
def aVr{f:D->Option (List D)}:(none:Option D).bind f=none:=rfl
def aYI{x:List D}{f:List D->List D}:(some x).map f=some (f x):=rfl
def aVq{x:List D}{f:List D->D}:(some x).map f=some (f x):=rfl
def aVp{x:D}{f:D->D}:(some x).map f=some (f x):=rfl
def aVo{x:D}{f:D->List D}:(some x).map f=some (f x):=rfl
def aYK{x:List D}:(some x).isSome=true:=rfl
def aVv{x:D}:(some x).isSome=true:=rfl
def aYM{a b:Nat}{l f:List Nat}:(a::l=b::f)=(a=b∧l=f):=U
def aVB{a:Nat}{l:List Nat}:(a::l=[])=False:=U
def aYN:(true=false)=False:=U
def aYO:(false=true)=False:=U
def aVu{m:HF}{n:Nat}{i:Id}{o:Nat}:bU m (some n) (.ptr i o)=(Ag m i o n).map .agg:=rfl
def aVt{m:HF}{i:Id}{o:Nat}:bU m none (.ptr i o)=m i o:=rfl
def aIG{s:Nat->D}{m:HF}{k:Option Nat}{a b:Nat}:CB [.t b,.cell k a] s m=(bU m k (s a)).map λd=> .tup [s b,d]:=by
 simp only[CB,GD,RV.of];cases bU m k (s a)<;>rfl
def aCb{s:Nat->D}{m:HF}{k:Option Nat}{a b c:Nat}:CB [.cell k a,.t b,.t c] s m=(bU m k (s a)).map λd=> .tup [d,s b,s c]:=by
 simp only[CB,GD,RV.of];cases bU m k (s a)<;>rfl
def VB{s:Nat->D}{m:HF}{k:Option Nat}{a b c e:Nat}:CB [.cell k a,.t b,.t c,.t e] s m=(bU m k (s a)).map λd=> .tup [d,s b,s c,s e]:=by
 simp only[CB,GD,RV.of];cases bU m k (s a)<;>rfl
def Iw{s:Nat->D}{m:HF}{k:Option Nat}{a b:Nat}:CB [.cell k a,.t b] s m=(bU m k (s a)).map λd=> .tup [d,s b]:=by
 simp only[CB,GD,RV.of];cases bU m k (s a)<;>rfl
def aVy{cs:List D}:Cj cs []=some cs:=rfl
def aYL{cs:List D}{o n:Nat}{d:D}{r:List (Nat×Nat×D)}:Cj cs ((o,n,d)::r)=if d.data=true∧d.cells.length=n∧o+n<=cs.length then Cj (F_ cs o d.cells) r else none:=rfl
def aYH{cs ds:List D}{o:Nat}:F_ cs o ds=cs.take o++ds++cs.drop (o+ds.length):=rfl
def aVs{nl:Bool}{t u:Id}{xs:List D}:Nl 0 (.slice nl t xs) (.slice true u [])=some nl:=by cases nl<;>rfl
def aVF:(true !=false)=true:=rfl
def aVE:(false !=false)=false:=rfl
def aVD:(true !=true)=false:=rfl
def aVC:(false !=true)=true:=rfl
def aVw{m:HF}{e:Nat}{f t:Id}{xs:List D}:HN.app m (Bm e f (.slice true t xs))=m.put f 0 [.tok (e+1)]:=rfl
def aVx{m:HF}{e:Nat}{f t:Id}{xs:List D}:HN.app m (Bm e f (.slice false t xs))=(m.put t 0 [.tok 0]).put f 0 [.tok (e+1)]:=rfl
def aVn{x y:D}{l:List D}:(x::l).set 0 y=y::l:=rfl
def aVm{x y:D}{l:List D}{n:Nat}:(x::l).set (n+1) y=x::l.set n y:=rfl
set_option linter.defProp false
def HB:=Qa @Ah <| Qa @Av <| Qa @Aw <| Qa @BC <| Qa @Iw <| Qa @aIG <| Qa @aCb <| Qa @VB <| Qa @aVu <| Qa @aVt <| Qa @aVk <| Qa @aVl <| Qa @aVA <| Qa @aVz <| Qa @aYJ <| Qa @aVr <| Qa @aYI <| Qa @aVq <| Qa @aVp <| Qa @aVo <| Qa @aYK <| Qa @aVv <| Qa @aYM <| Qa @aVB <| Qa @aYN <| Qa @aYO <| Qa @Qx <| Qa @Qw <| Qa @Qm <| Qa @true_and <| Qa @and_true <| Qa @false_and <| Qa @and_false <| Qa @and_self <| Qa @Qp <| Qa @QQ <| Qa @Qv <| Qa @Nat.add_eq_right <| Qa @Bool.true_or <| Qa @Bool.or_true <| Qa @ZL <| Qa @ZM <| Qa @ZH <| Qa @ZD <| Qa @not_true_eq_false <| Qa @not_false_eq_true <| Qa @aVy <| Qa @aYL <| Qa @aYH <| Qa @aVn <| Qa @aVm <| Qa @aVs <| Qa @aVw <| Qa @aVx <| Qa aVF <| Qa aVE <| Qa aVD aVC
def gZ1:=Qa H1 HB
abbrev Rw:=Int×Bool×Bool
def rwD(r:Rw):D:= .agg [.int .i64 r.1,.bool r.2.1,.bool r.2.2]
def Bd(l:List Rw):List D:=l.map rwD
def AS(l:List Rw):(Bd l).length=l.length:=Qy ..
def FV{l:List Rw}{j:Nat}(h:j<l.length):(Bd l)[j]?=some (.agg [.int .i64 l[j].1,.bool l[j].2.1,.bool l[j].2.2]):=by simp[Bd,rwD,Qc h]
structure Sc where
 mx:Int
 cas:Bool
 la:Int
 nl:Bool
 rs:List Rw
def HO(s:Sc):List D:=[.int .i64 s.mx,.bool s.cas,.int .i64 s.la,.slice s.nl [] (Bd s.rs)]
def Cz:List Rw->Int->Bool
 |[],_=>true
 |x::r,a=>decide (a<x.1)&&Cz r x.1
def AT(s:Sc)(q:Int):Int:=if s.mx=0 then q else s.mx
def GN(l:List Rw):Int:=match l.getLast? with
 |some x=>x.1
 |none=>0
def B5(s:Sc)(q:Int):Bool:=!decide (1<=q∧q<=6)||(!decide (0<=s.mx∧s.mx<=6)||(!decide (0<=s.la∧s.la<=30)||(decide (AT s q<s.rs.length)||(!Cz s.rs 0||!decide (GN s.rs=s.la)))))
def Vp(s:Sc)(q:Int):Int:=if B5 s q=true then 2 else 0
def aZw:=Aq []
def aS4:=RF aZw aNR [.t 2] 5
def aV8:Kq aS4 61:=An (Aj func61) Ad
def aKR(r:Rw):aS4 [.agg [.int .i64 r.1,.bool r.2.1,.bool r.2.2]]=some (.int .i64 r.1):=by
 refine Am (QH rfl) ?_;unfold aNR;simp only[↓C2,HE,HB,simprocAttr]
 all_goals exact Y2
def aZs:=Aq []
def aKI:=RF aZs aNy [.cell (some 2) 0] 2
def aMC:Kq aKI 57:=An (Aj func57) Ad
def vF:aKI []=some (.agg [.int .i64 6,.bool false]):=by
 refine Am (QH rfl) ?_;unfold aNy;simp only[↓C2,HE,HB,simprocAttr]
 all_goals exact Y2
def aZC:=Aq []
def S0:=RF aZC aOc [.cell (some 2) 0] 2
def aMI:Kq S0 273:=An (Aj func273) Ad
def vL:S0 []=some (.agg [.int .i64 6,.bool false]):=by
 refine Am (QH rfl) ?_;unfold aOc;simp only[↓C2,HE,HB,simprocAttr]
 all_goals exact Y2
def aZx:=Aq []
def aKT:=RF aZx uC [.t 4] 12
def aMF:Kq aKT 59:=An aM6 Ad
def vI(s:Sc)(q:Int)(b:Bool):aKT [.agg (HO s),.agg [.int .i64 q,.bool b]]=some (.int .i64 (AT s q)):=by
 refine Am (QH rfl) ?_;unfold uC;unfold AT HO;by_cases h:s.mx=0
 ·simp only[↓C2,HE,HB,simprocAttr,h]
  all_goals exact Y2
 ·simp only[↓C2,HE,HB,simprocAttr,h]
  all_goals exact Y2
def aSD:=Aq [(61,Ac aS4)]
def aS5:=RF aSD uB [.t 4] 23
def aV9:Kq aS5 60:=An aM5 (Aa aV8 Ad)
def aKS{nl:Bool}{l:List Rw}(hl:l.length<=1000):aS5 [.slice nl [] (Bd l),.fn 61 []]=some (.bool (Cz l 0)):=by
 refine Am (QH rfl) ?_;unfold uB;simp only[↓C2,HH,simprocAttr,AS];refine BX (n:=l.length) (I:=λj v=>v.s 8= .slice nl [] (Bd l)∧v.s 9= .int .i64 l.length∧v.s 10= .int .i64 (j:Int)∧v.s 1= .fn 61 []∧∃a,v.s 5= .int .i64 a∧Cz (l.drop j) a=Cz l 0) (λj hj ih v g hI=>?_) (λv g hI=>?_) 0 (Qx _) _ _ ⟨rfl,rfl,rfl,rfl,0,rfl,rfl⟩
 ·obtain⟨i,y,c⟩:=v;obtain⟨q,f,m,u,a,w,r⟩:=hI;simp only at q f m u w;refine Af P9.eq_1 ?_;have d:((j:Int)<l.length):=by omega
  have t:=nJ (j:=j);have k:=wJ (j:=j) O;have o:=FV hj;have z:l.drop j=l[j]::l.drop (j+1):=Q4 hj;have b:=aKR l[j];rw[z]at r;generalize l[j]=x at o r b z;by_cases p:x.1<=a
  ·have e:Cz l 0=false:=by rw[←r];simp[Cz];omega
   simp only[↓C2,HE,HB,simprocAttr,q,f,m,u,w,d,t,Qj,o,Ae aSD 61,b,p];rw[e]
   all_goals exact Y2
  ·have e:Cz (l.drop (j+1)) x.1=Cz l 0:=by rw[←r];simp only[Cz];rw[decide_eq_true O];rfl
   simp only[↓C2,HE,HB,simprocAttr,q,f,m,u,w,d,t,Qj,o,Ae aSD 61,b,p,k];exact ih _ _ ⟨q,f,rfl,u,_,rfl,e⟩
 ·obtain⟨q,f,m,u,a,w,r⟩:=hI;refine Af P9.eq_1 ?_;have e:Cz l 0=true:=by rw[←r];simp[Cz]
  simp only[↓C2,HE,HB,simprocAttr,f,m,Zn];rw[e]
  all_goals exact Y2
def Gy:HD:=Aq [(58,Ac kJ),(59,Ac aKT),(60,Ac aS5)]
def Mc:List D->Option D:=RF Gy uG [.t 4] 52
def Sm:Kq Mc 25:=An aM9 (Aa aCw (Aa aMF (Aa aV9 Ad)))
def Hy(s:Sc)(q:Int)(b:Bool)(hl:s.rs.length<=1000):Mc [.agg (HO s),.agg [.int .i64 q,.bool b]]=some (.int .i64 (Vp s q)):=by
 refine Am (QH rfl) ?_;unfold uG;have d:=vI s q b;have f:=aKS (nl:=s.nl) (l:=s.rs) hl;have c:∀x a b:Int,kJ [.int .i64 x,.int .i64 a,.int .i64 b]=some (.bool (decide (a<=x∧x<=b))):=λ_ _ _=>rfl
 have w:IntKind.i64.wrap ((s.rs.length:Int)-1)=(s.rs.length:Int)-1:=H9 O O;have g:0<s.rs.length->∃x:Rw,GN s.rs=x.1∧(Bd s.rs)[((s.rs.length:Int)-1).toNat]?=some (.agg [.int .i64 x.1,.bool x.2.1,.bool x.2.2]):=λh=>by
  have m:((s.rs.length:Int)-1).toNat=s.rs.length-1:=O
  refine⟨s.rs[s.rs.length-1],?_,by rw[m];exact FV O⟩;unfold GN;rw[List.getLast?_eq_getElem?,Qc O]
 have y:¬0<s.rs.length->GN s.rs=0:=λh=>by
  have:s.rs=[]:=Zo.1 O;rw[this];rfl
 unfold Vp B5;unfold HO at d ⊢;generalize AT s q=r at d;generalize Cz s.rs 0=k at f;generalize GN s.rs=u at g y;by_cases c1:1<=q∧q<=6
 case neg=>
  simp only[↓C2,HE,HB,simprocAttr,Ae Gy 58,c,c1]
  all_goals exact Y2
 by_cases c2:0<=s.mx∧s.mx<=6
 case neg=>
  simp only[↓C2,HE,HB,simprocAttr,Ae Gy 58,c,c1,c2]
  all_goals exact Y2
 by_cases t:0<=s.la∧s.la<=30
 case neg=>
  simp only[↓C2,HE,HB,simprocAttr,Ae Gy 58,c,c1,c2,t]
  all_goals exact Y2
 by_cases p:r<s.rs.length
 case pos=>
  simp only[↓C2,HE,HB,simprocAttr,Ae Gy 58,c,Ae Gy 59,d,c1,c2,t,p,AS];refine A0 ?_;simp only[↓C2,HE,HB,simprocAttr,p]
  all_goals exact Y2
 cases k with
 |false=>
  simp only[↓C2,HE,HB,simprocAttr,Ae Gy 58,c,Ae Gy 59,d,Ae Gy 60,f,c1,c2,t,p,AS];refine A0 ?_;simp only[↓C2,HE,HB,simprocAttr,p]
  all_goals exact Y2
 |true=>
  by_cases z:0<s.rs.length
  ·obtain⟨x,v,n⟩:=g z;have i:(0:Int)<(s.rs.length:Int):=by omega
   have j:(0:Int)<=(s.rs.length:Int)-1:=O
   subst v;by_cases o:x.1=s.la
   ·simp only[↓C2,HE,HB,simprocAttr,Ae Gy 58,c,Ae Gy 59,d,Ae Gy 60,f,c1,c2,t,p,o,AS];refine A0 ?_;simp only[↓C2,HE,HB,simprocAttr,c1,c2,t,p,i,j,w,n,o,AS]
    all_goals exact Y2
   ·simp only[↓C2,HE,HB,simprocAttr,Ae Gy 58,c,Ae Gy 59,d,Ae Gy 60,f,c1,c2,t,p,o,AS];refine A0 ?_;simp only[↓C2,HE,HB,simprocAttr,c1,c2,t,p,i,j,w,n,o,AS]
    all_goals exact Y2
  ·have v:=y z;have i:¬(0:Int)<(s.rs.length:Int):=by omega
   subst v;by_cases o:(0:Int)=s.la
   ·have e:((0:Int)=s.la)=True:=eq_true o;simp only[↓C2,HE,HB,simprocAttr,Ae Gy 58,c,Ae Gy 59,d,Ae Gy 60,f,c1,c2,t,p,e,AS];refine A0 ?_;simp only[↓C2,HE,HB,simprocAttr,c1,c2,t,p,i,e,AS]
    all_goals exact Y2
   ·have e:((0:Int)=s.la)=False:=eq_false o;simp only[↓C2,HE,HB,simprocAttr,Ae Gy 58,c,Ae Gy 59,d,Ae Gy 60,f,c1,c2,t,p,e,AS];refine A0 ?_;simp only[↓C2,HE,HB,simprocAttr,c1,c2,t,p,i,e,AS]
    all_goals exact Y2
def aW4:=y0 f80 [] []
def aPa:=y0 f133 [] []
def aO9:=y0 f135 [] []
def aWV:=y0 f40 [] []
def Rg:=y1 f91 3 [] []
def aOD:=y0 f91 [] [(3,Rg)]
def aOC:=y0 f92 [] []
def aO7:=y0 Tryz.f195 [(2,[(5,1),(5,8),(6,1),(6,8)])] []
def aWU:=y0 f134 [] []
def aOB:=y0 f198 [] []
def aJ3:=y1 f253 3 [] []
def aJ2:=y1 f253 11 [] []
def aXf:=y0 f253 [] [(3,aJ3),(11,aJ2)]
def aW3:=y0 f196 [] []
def aXb:=y0 f81 [] []
def aXa:=y0 f13 [] []
def Ri:=y1 f19 3 [] []
def aO0:=y0 f19 [] [(3,Ri)]
def lD{a b:Bs}:AP .lss (.str a) (.str b)=some (.bool (Op.bytesLess a b)):=Xn
def aBv{a b:Bs}:AP .gtr (.str a) (.str b)=some (.bool (!(Op.bytesLess a b||a==b))):=Xn
def C0(a b:Bs):Int:=if Op.bytesLess a b=true then-1 else if a=b then 0 else 1
def aLN:List D->Option D
 |[.str s]=>some (.bool false)
 |_=>none
def aUT:Kq aLN 113:=by
 refine AO (S:=λ_=>none) Ba (Aj func113:Fn Qf 113 6 aOq [.t 2]) (λds r h=>?_) (λds r h=>?_)
 ·unfold aLN at h;split at h
  ·simp
  ·cases h
 ·unfold aLN at h;split at h
  ·rename_i s;simp only[Qb]at h;subst h;unfold aOq;simp only[↓C2,HE,reduceIte,Qd,Qe,and_self]
  ·cases h
def PM:List D->Option D
 |[.str a,.str b]=>some (.int .i64 (C0 a b))
 |_=>none
def sC:Kq PM 62:=by
 obtain⟨S,g,hl⟩:=By (Aa aUT Ad);have c:=hl 113 _ rfl;clear hl;refine AO (S:=S) g (Aj func62:Fn Qf 62 20 aPb [.t 4]) (λds r h=>?_) (λds r h=>?_)
 ·unfold PM at h;split at h
  ·simp
  ·cases h
 ·unfold PM at h;split at h
  ·rename_i a b;simp only[Qb]at h;subst h;unfold aPb;have d:∀s,aLN [.str s]=some (.bool false):=λ_=>rfl
   unfold C0;cases hl:Op.bytesLess a b with
   |true=>simp only[↓C2,HE,reduceIte,Qd,Qe,and_self,Ab c,d,lD,hl]
   |false=>
    by_cases y:a=b
    ·subst y;have z:(a==a)=true:=by simp
     simp only[↓C2,HE,reduceIte,Qd,Qe,and_self,Ab c,d,lD,aBv,hl,z,ZL]
    ·have z:(a==b)=false:=by simpa using y
     simp only[↓C2,HE,reduceIte,Qd,Qe,and_self,Ab c,d,lD,aBv,hl,z,y,ZM]
  ·cases h
def aBj:List D->Option D
 |[.agg [.str p,.int .i64 q,.bool b],.agg [.str p2,.int .i64 q2,.bool b2]]=>some (.int .i64 (C0 p p2))
 |_=>none
def aVd:Kq aBj 192:=by
 obtain⟨S,g,hl⟩:=By (Aa sC Ad);have z:=hl 62 _ rfl;clear hl;refine AO (S:=S) g (Aj func192:Fn Qf 192 10 aPc [.t 4]) (λds r h=>?_) (λds r h=>?_)
 ·unfold aBj at h;split at h
  ·simp
  ·cases h
 ·unfold aBj at h;split at h
  ·rename_i p q b e o v;simp only[Qb]at h;subst h;unfold aPc;have j:∀a b,PM [.str a,.str b]=some (.int .i64 (C0 a b)):=λ_ _=>rfl
   simp only[↓C2,HE,reduceIte,Qd,Qe,Ah,Qx,QL,Qw,Qh,Qk,Qm,Qg,and_self,Qn,Qp,QQ,Ab z,j]
  ·cases h
def aBg:List D->Option D
 |[.agg [.str n,.str p,.slice nl t xs],.str s]=>some (.int .i64 (C0 n s))
 |_=>none
def aU0:Kq aBg 92:=by
 obtain⟨S,g,hl⟩:=By (Aa sC Ad);have z:=hl 62 _ rfl;clear hl;refine AO (S:=S) g (Aj func92:Fn Qf 92 9 aOC [.t 4]) (λds r h=>?_) (λds r h=>?_)
 ·unfold aBg at h;split at h
  ·simp
  ·cases h
 ·unfold aBg at h;split at h
  ·rename_i n p nl t xs s;simp only[Qb]at h;subst h;unfold aOC;have j:∀a b,PM [.str a,.str b]=some (.int .i64 (C0 a b)):=λ_ _=>rfl
   simp only[↓C2,HE,reduceIte,Qd,Qe,Ah,Qx,QL,Qw,Qh,Qk,Qm,Qg,and_self,Ab z,j]
  ·cases h
abbrev Tk:=Bs×Bs×Bool×List Rl
def IW(k:Tk):D:= .agg [.str k.1,.str k.2.1,.slice k.2.2.1 [] (As k.2.2.2)]
def Ar(l:List Tk):List D:=l.map IW
def tkT:D->Tk
 | .agg [.str n,.str p,.slice nl _ xs]=>(n,p,nl,Bv xs)
 |_=>([],[],true,[])
def DG(xs:List D):List Tk:=xs.map tkT
def BU(l:List Tk):DG (Ar l)=l:=by
 simp only[DG,Ar,QJ]
 conv=>rhs;rw[←ZB l]
 exact QD λr _=>by simp only[Function.comp,IW,tkT,A3,id]
theorem Bp(l:List Tk):(Ar l).length=l.length:=Qy ..
def Bk(l:List Tk)(j:Nat):Tk:=l.getD j ([],[],true,[])
def Hd{l:List Tk}{j:Nat}(h:j<l.length):(Ar l)[j]?=some (IW (Bk l j)):=by
 grind [Ar,Bk]
def bsR(l:List Tk)(s:Bs):Nat->Nat->Nat->Nat
 |0,lo,_=>lo
 |f+1,lo,hi=>if lo<hi then(if C0 (Bk l ((lo+hi) / 2)).1 s<0 then bsR l s f ((lo+hi) / 2+1) hi else bsR l s f lo ((lo+hi) / 2))else lo
def IZ(l:List Tk)(s:Bs):Nat:=bsR l s l.length 0 l.length
def AY(l:List Tk)(s:Bs):Bool:=decide (IZ l s<l.length)&&decide (C0 (Bk l (IZ l s)).1 s=0)
def aSn{lo hi:Nat}(h:lo+hi<1000000000):IntKind.i64.wrap ((IntKind.u64.wrap (IntKind.i64.wrap ((lo:Int)+(hi:Int)))).fdiv (2 ^ min (1:Int).toNat IntKind.u64.bits))=(((lo+hi) / 2:Nat):Int):=by
 have u:IntKind.i64.wrap ((lo:Int)+(hi:Int))=((lo+hi:Nat):Int):=Xi
 have y:IntKind.u64.wrap ((lo+hi:Nat):Int)=((lo+hi:Nat):Int):=by
  simp only[IntKind.wrap,IntKind.signed,IntKind.bits,Za,QS,if_false];omega
 have o:(((lo+hi:Nat):Int)).fdiv (2 ^ min (1:Int).toNat IntKind.u64.bits)=(((lo+hi) / 2:Nat):Int):=by
  rw[show(2:Int) ^ min (1:Int).toNat IntKind.u64.bits=2 from rfl,Int.fdiv_eq_ediv_of_nonneg _ O];omega
 rw[u,y,o,H9 O O]
def aJp{S:HD}{ns:Id}{l:List Tk}{nl:Bool}{t:Id}{s:Bs}{Q:Ex->St->Prop}{e:Nat}(v:S 92=some (Ac aBg))(x:l.length<=1000000)
  (ga:∀w,w.s 0= .slice nl t (Ar l)->w.s 1= .str s->w.s 2= .fn 92 []->w.s 8= .int .i64 (l.length:Int)->w.s 9= .int .i64 (e:Int)->Q (.exit 0) w):
  ∀(f lo hi:Nat) w g,hi<=lo+f->hi<=l.length->bsR l s f lo hi=e->w.s 0= .slice nl t (Ar l)->w.s 1= .str s->w.s 2= .fn 92 []->w.s 8= .int .i64 (l.length:Int)->w.s 9= .int .i64 (lo:Int)->w.s 10= .int .i64 (hi:Int)->A9 S ns Rg Q w g:=by
 intro f;induction f with
 |zero=>
  intro lo hi w g hf hh he o q y h8 h9 m;refine Af Rg.eq_1 ?_;have:¬((lo:Int)<hi):=O
  simp only[↓C2,HH,HZ,reduceIte,Qd,Qe,h9,m,this];exact ga _ o q y h8 (by rw[←he];exact h9)
 |succ f ih=>
  intro lo hi w g hf hh he o q y h8 h9 m;refine Af Rg.eq_1 ?_;unfold bsR at he;by_cases ea:lo<hi
  ·rw[if_pos ea]at he;have b:((lo:Int)<hi):=by omega
   have h:=aSn (lo:=lo) (hi:=hi) O;have wa:(lo+hi) / 2<hi:=O
   have z:lo<=(lo+hi) / 2:=O
   generalize (lo+hi) / 2=mid at he h wa z;have qa:(0:Int)<=(mid:Int):=O
   have a:(0:Int)<=1:=O
   have hw:IntKind.i64.wrap ((mid:Int)+1)=((mid+1:Nat):Int):=H9 O O;have i:=Hd (l:=l) (j:=mid) O;generalize Bk l mid=k at i he;obtain⟨n,p,r,rs⟩:=k;replace i:(Ar l)[mid]?=some (.agg [.str n,.str p,.slice r [] (As rs)]):=i;have u:aBg [.agg [.str n,.str p,.slice r [] (As rs)],.str s]=some (.int .i64 (C0 n s)):=rfl;simp only at he;generalize C0 n s=c at he u;obtain⟨ma,ia,da⟩:=w;simp only at o q y h8 h9 m;by_cases d:c<0
   ·rw[if_pos d]at he;simp only[↓C2,HE,reduceIte,Qd,Qe,o,q,y,h9,m,b,h,qa,a,hw,i,d,Qj,Ab v,u,QY,Qh,Qk,Qm,Qu,Qz];exact ih (mid+1) hi _ _ O hh he o q y h8 rfl m
   ·rw[if_neg d]at he;simp only[↓C2,HE,reduceIte,Qd,Qe,o,q,y,h9,m,b,h,qa,a,i,d,Qj,Ab v,u,QY,Qh,Qk,Qm,Qu,Qz];exact ih lo mid _ _ O O he o q y h8 h9 rfl
  ·rw[if_neg ea]at he;have b:¬((lo:Int)<hi):=by omega
   simp only[↓C2,HH,HZ,reduceIte,Qd,Qe,h9,m,b];exact ga _ o q y h8 (by rw[←he];exact h9)
def WF(l:List Tk)(s:Bs):∀(f lo hi:Nat),lo<=hi->bsR l s f lo hi<=hi
 |0,lo,hi,h=>by simpa[bsR]using h
 |f+1,lo,hi,h=>by
  unfold bsR;split
  ·split
   ·exact WF l s f _ _ O
   ·exact QR (WF l s f _ _ O) O
  ·exact h
open Classical in
def aLU:List D->Option D
 |[.slice _ _ xs,.str s,.fn 92 []]=>if xs=Ar (DG xs)∧xs.length<=1000000 then some (.tup [.int .i64 (IZ (DG xs) s:Int),.bool (AY (DG xs) s)])else none
 |_=>none
open Classical in
def aLT{nl:Bool}{t:Id}{l:List Tk}{s:Bs}(hl:l.length<=1000000):aLU [.slice nl t (Ar l),.str s,.fn 92 []]=some (.tup [.int .i64 (IZ l s:Int),.bool (AY l s)]):=by
 have h:Ar l=Ar (DG (Ar l))∧(Ar l).length<=1000000:=by rw[BU,Bp];exact⟨rfl,hl⟩
 show(if _ then _ else _)=_;rw[if_pos h,BU]
def aU1:Kq aLU 91:=by
 obtain⟨S,g,hl⟩:=By (Aa aU0 Ad);have v:=hl 92 _ rfl;clear hl;refine AO (S:=S) g (Aj func91:Fn Qf 91 49 aOD [.t 6,.t 7]) (λds r h=>?_) (λds r h=>?_)
 ·unfold aLU at h;split at h
  ·simp
  ·cases h
 ·unfold aLU at h;split at h
  ·rename_i nl t xs s;split at h
   ·rename_i d;obtain⟨m,hl⟩:=d;simp only[Qb]at h;subst h;generalize DG xs=l at m;subst m;rw[Bp]at hl;have c:IZ l s<=l.length:=WF l s _ _ _ O;unfold aOD;simp only[↓C2,HH,reduceIte,Qd,Qe,Bp];refine aJp (l:=l) (nl:=nl) (t:=t) (s:=s) (e:=IZ l s) v hl (λw b q y h8 f=>?_) l.length 0 l.length _ _ O O rfl rfl rfl rfl rfl rfl rfl;unfold AY;generalize IZ l s=i at f c;by_cases hi:i<l.length
    ·have z:((i:Int)<l.length):=by omega
     have x:(0:Int)<=(i:Int):=O
     have o:=Hd (l:=l) (j:=i) hi;generalize Bk l i=k at o;obtain⟨n,p,ca,rs⟩:=k;replace o:(Ar l)[i]?=some (.agg [.str n,.str p,.slice ca [] (As rs)]):=o;have u:aBg [.agg [.str n,.str p,.slice ca [] (As rs)],.str s]=some (.int .i64 (C0 n s)):=rfl;simp only[↓C2,HE,reduceIte,Qd,Qe,b,q,y,h8,f,z,x,o,Qj,Ab v,u,QY,Qh,Qk,Qm,Qu,Qz];simp[hi]
    ·have z:¬((i:Int)<l.length):=by omega
     simp only[↓C2,HE,reduceIte,Qd,Qe,h8,f,z];simp[hi]
   ·cases h
  ·cases h
def qZ(l:List Tk):(Ar l).map D.un=Ar l:=by rw[Ar,QJ];exact QD λ_ _=>rfl
def xC(l:List Tk):aF (Ar l) 3=3:=XB
def FU(xs:List D):Prop:=xs=Ar (DG xs)∧xs.length<=1000000
def Fj{l:List Tk}(hl:l.length<=1000000):FU (Ar l):=⟨by rw[BU],by rw[Bp];exact hl⟩
def E8{xs:List D}(h:FU xs):∃l:List Tk,xs=Ar l∧l.length<=1000000∧DG xs=l:=by
 refine⟨DG xs,h.1,?_,rfl⟩;have:=h.2;rw[h.1,Bp]at this;exact this
open Classical in
def F93:List D->Option D
 |[.agg [.slice _ _ xs],.str s]=>if FU xs then some (.tup [.int .i64 (IZ (DG xs) s:Int),.bool (AY (DG xs) s)])else none
 |_=>none
open Classical in
def O7{nl:Bool}{t:Id}{l:List Tk}{s:Bs}(hl:l.length<=1000000):F93 [.agg [.slice nl t (Ar l)],.str s]=some (.tup [.int .i64 (IZ l s:Int),.bool (AY l s)]):=by
 show(if _ then _ else _)=_;rw[if_pos (Fj hl),BU]
def aCt:Kq F93 40:=by
 obtain⟨S,g,hl⟩:=By (Aa aU1 Ad);have y:=hl 91 _ rfl;clear hl;refine AO (S:=S) g (Aj func40:Fn Qf 40 12 aWV [.t 4,.t 5]) (λds r h=>?_) (λds r h=>?_)
 ·unfold F93 at h;split at h
  ·simp
  ·cases h
 ·unfold F93 at h;split at h
  ·rename_i nl t xs s;split at h
   ·rename_i d;obtain⟨l,rfl,hl,e⟩:=E8 d;simp only[Qb]at h;subst h;rw[e];have j:=aLT (nl:=nl) (t:=[]) (s:=s) hl;unfold aWV;simp only[↓C2,H1,simprocAttr,Ah,Ab y,j]
   ·cases h
  ·cases h
open Classical in
def F36:List D->Option D
 |[.agg [.slice _ _ xs],.str s,.str p]=>if FU xs∧∀k∈DG xs,k.2.2.2.length<=1000000 then some (.int .u8 (if AY (DG xs) s=true then DB (Bk (DG xs) (IZ (DG xs) s)).2.2.2 p else 0))else none
 |_=>none
def aYD:Kq F36 13:=by
 obtain⟨S,v,hl⟩:=By (Aa aCt (Aa aQB Ad));have c:=hl 40 _ rfl;have g:=hl 41 _ rfl;clear hl;refine AO (S:=S) v (Aj func13:Fn Qf 13 25 aXa [.t 6]) (λds r h=>?_) (λds r h=>?_)
 ·unfold F36 at h;split at h
  ·simp
  ·cases h
 ·unfold F36 at h;split at h
  ·rename_i nl t xs s p;split at h
   ·rename_i d;obtain⟨d,m⟩:=d;obtain⟨l,rfl,hl,e⟩:=E8 d;rw[e]at m h;simp only[Qb]at h;subst h;have z:=O7 (nl:=nl) (t:=[]) (s:=s) hl;have hu:=qZ l;unfold aXa;cases hf:AY l s with
    |false=>simp only[↓C2,H1,simprocAttr,Ah,Av,Aw,Qi,Ab c,z,hf]
    |true=>
     have hi:IZ l s<l.length:=by
      grind [AY]
     rw[hf]at z;generalize IZ l s=i at z hi;have x:(0:Int)<=(i:Int):=O
     have o:=Hd (l:=l) (j:=i) hi;have u:Bk l i∈l:=by simp[Bk,Qc hi]
     have y:=m _ u;generalize Bk l i=k at o y;obtain⟨n,q,w,rs⟩:=k;replace o:(Ar l)[i]?=some (.agg [.str n,.str q,.slice w [] (As rs)]):=o;have a:=qF (nl:=w) (t:=[]) (s:=p) y;simp only[↓C2,H1,simprocAttr,Ah,Av,Aw,Qi,QB,QE,QP,Ab c,z,Ab g,a,x,o,Qj]
   ·cases h
  ·cases h
def Fg(n p:Bs)(l:List Rl):Int:=if BJ n=false then 2 else if Cg l≠0 then Cg l else if p=[]∧n=[114,111,111,116]then 0 else if BJ p=true∧p≠n then 0 else 2
open Classical in
def qI:List D->Option D
 |[.agg [.str n,.str p,.slice _ _ xs]]=>if(xs=As (Bv xs)∧xs.length<=1000000∧Cw (Bv xs))∧n.length<=1000000∧p.length<=1000000 then some (.int .i64 (Fg n p (Bv xs)))else none
 |_=>none
open Classical in
def Ru{n p:Bs}{nl:Bool}{t:Id}{l:List Rl}(hl:l.length<=1000000)(g:Cw l)(u:n.length<=1000000)(y:p.length<=1000000):qI [.agg [.str n,.str p,.slice nl t (As l)]]=some (.int .i64 (Fg n p l)):=by
 have h:(As l=As (Bv (As l))∧(As l).length<=1000000∧Cw (Bv (As l)))∧n.length<=1000000∧p.length<=1000000:=by rw[A3,A1];exact⟨⟨rfl,hl,g⟩,u,y⟩
 show(if _ then _ else _)=_;rw[if_pos h,A3]
def aCy:Kq qI 135:=by
 obtain⟨S,s,hl⟩:=By (Aa aUS (Aa eJ Ad));have b:=hl 199 _ rfl;have u:=hl 168 _ rfl;clear hl;refine AO (S:=S) s (Aj func135:Fn Qf 135 34 aO9 [.t 2]) (λds r h=>?_) (λds r h=>?_)
 ·unfold qI at h;split at h
  ·simp
  ·cases h
 ·unfold qI at h;split at h
  ·rename_i n p nl t xs;split at h
   ·rename_i d;obtain⟨⟨w,hl,g⟩,v,q⟩:=d;simp only[Qb]at h;subst h;generalize Bv xs=l at w g;subst w;rw[A1]at hl;have a:aHy [.str n]=some (.bool (BJ n)):=if_pos v;have c:aHy [.str p]=some (.bool (BJ p)):=if_pos q;have f:=W5 (nl:=nl) (t:=[]) hl g;have m:=VA l;have oa:=Oq l;unfold aO9 Fg;generalize Cg l=e at *;generalize BJ p=z at *;generalize BJ n=y at *;cases y with
    |false=>simp only[↓C2,HE,simprocAttr,Ah,Qx,Qw,Qh,Qk,Qm,Qg,and_self,Ab b,a]
    |true=>
     simp only[↓C2,H1,simprocAttr,Ah,Ab b,a,Ab u,f]
     repeat' (first|(refine aG (λh=>?_) (λh=>?_)<;>try (exfalso;omega))|(simp only[↓C2,H1,simprocAttr,h,Ah,false_and,Ab b,c]))
     all_goals (try simp_all)
   ·cases h
  ·cases h
def Be{s:Nat->D}{m:HF}{k:Option Nat}{a b:Nat}:CB [.cell k a,.t b] s m=(bU m k (s a)).map λd=> .tup [d,s b]:=by
 simp only[CB,GD,RV.of];cases bU m k (s a)<;>rfl
def MW:(true !=false)=true:=rfl
def aSo:(false !=false)=false:=rfl
def Pg(nl:Bool)(xs:List D):Prop:=xs=As (Bv xs)∧xs.length<=1000000∧(nl=true->xs=[])
def Nb{nl:Bool}{l:List Rl}(hl:l.length<=1000000)(w:nl=true->l=[]):Pg nl (As l):=⟨by rw[A3],by rw[A1];exact hl,λh=>by rw[w h];rfl⟩
def LT{nl:Bool}{xs:List D}(h:Pg nl xs):∃l:List Rl,xs=As l∧l.length<=1000000∧(nl=true->l=[])∧Bv xs=l:=by
 refine⟨Bv xs,h.1,?_,λw=>?_,rfl⟩
 ·have:=h.2.1;rw[h.1,A1]at this;exact this
 ·rw[h.2.2 w];rfl
open Classical in
def aLS:List D->Option D
 |[.slice nl _ xs]=>if Pg nl xs then some (.slice nl [] xs)else none
 |_=>none
open Classical in
def aLR{nl:Bool}{t:Id}{l:List Rl}(hl:l.length<=1000000)(w:nl=true->l=[]):aLS [.slice nl t (As l)]=some (.slice nl [] (As l)):=by
 show(if _ then _ else _)=_;rw[if_pos (Nb hl w)]
def aUZ:Kq aLS 198:=by
 refine AO (S:=λ_=>none) Ba (Aj func198:Fn Qf 198 8 aOB [.t 2]) (λds r h=>?_) (λds r h=>?_)
 ·unfold aLS at h;split at h
  ·simp
  ·cases h
 ·unfold aLS at h;split at h
  ·rename_i nl t xs;split at h
   ·rename_i d;obtain⟨l,rfl,hl,w,e⟩:=LT d;simp only[Qb]at h;subst h;have n1:(As l).length*25<=140737488355328:=by rw[A1];omega
    unfold aOB;cases nl with
    |true=>
     have:=w rfl;subst this;simp only[↓C2,HE,simprocAttr,MW,Nl];rfl
    |false=>simp only[↓C2,HE,simprocAttr,Ah,Qx,Qw,Qh,Qk,Qm,Qg,and_self,false_and,aSo,n1,nR,fT,Ud,false_or,Q_,ne_eq,QV,Zi,Nl]
   ·cases h
  ·cases h
open Classical in
def F94:List D->Option D
 |[.agg [.str n,.str p,.slice nl _ xs]]=>if Pg nl xs then some (.agg [.str n,.str p,.slice nl [] xs])else none
 |_=>none
open Classical in
def aHn{n p:Bs}{nl:Bool}{t:Id}{l:List Rl}(hl:l.length<=1000000)(w:nl=true->l=[]):F94 [.agg [.str n,.str p,.slice nl t (As l)]]=some (.agg [.str n,.str p,.slice nl [] (As l)]):=by
 show(if _ then _ else _)=_;rw[if_pos (Nb hl w)]
def aUp:Kq F94 134:=by
 obtain⟨S,g,hl⟩:=By (Aa aUZ Ad);have a:=hl 198 _ rfl;clear hl;refine AO (S:=S) g (Aj func134:Fn Qf 134 8 aWU [.cell (some 3) 2]) (λds r h=>?_) (λds r h=>?_)
 ·unfold F94 at h;split at h
  ·simp
  ·cases h
 ·unfold F94 at h;split at h
  ·rename_i n p nl t xs;split at h
   ·rename_i d;obtain⟨l,rfl,hl,w,e⟩:=LT d;simp only[Qb]at h;subst h;have b:=aLR (t:=[]) hl w;unfold aWU;simp only[↓C2,H1,simprocAttr,Ah,Av,Aw,Qi,Qo,Qn,Qp,and_false,Qv,BC,AW,Ab a,b]
   ·cases h
  ·cases h
def aBH(k:Tk):Prop:=k.2.2.2.length<=1000000∧(k.2.2.1=true->k.2.2.2=[])
open Classical in
def F35:List D->Option D
 |[.agg [.slice _ _ xs],.str s]=>if FU xs∧∀k∈DG xs,aBH k then some (.tup (if AY (DG xs) s=true then [IW (Bk (DG xs) (IZ (DG xs) s)),.bool true]else [.agg [.str [],.str [],.slice true [] []],.bool false]))else none
 |_=>none
def aUw:Kq F35 81:=by
 obtain⟨S,v,hl⟩:=By (Aa aCt (Aa aUp Ad));have c:=hl 40 _ rfl;have a:=hl 134 _ rfl;clear hl;refine AO (S:=S) v (Aj func81:Fn Qf 81 23 aXb [.cell (some 3) 4,.t 5]) (λds r h=>?_) (λds r h=>?_)
 ·unfold F35 at h;split at h
  ·simp
  ·cases h
 ·unfold F35 at h;split at h
  ·rename_i nl t xs s;split at h
   ·rename_i d;obtain⟨d,g⟩:=d;obtain⟨l,rfl,hl,e⟩:=E8 d;rw[e]at g h;simp only[Qb]at h;subst h;have z:=O7 (nl:=nl) (t:=[]) (s:=s) hl;have m:=qZ l;unfold aXb;cases hf:AY l s with
    |false=>simp only[↓C2,H1,simprocAttr,Ah,Av,Aw,Qi,Qo,Qn,Qp,and_false,Qv,AW,Be,Cj,Ab c,z,hf]
    |true=>
     have hi:IZ l s<l.length:=by
      grind [AY]
     rw[hf]at z;generalize IZ l s=i at z hi;have va:(0:Int)<=(i:Int):=O
     have o:=Hd (l:=l) (j:=i) hi;have u:Bk l i∈l:=by simp[Bk,Qc hi]
     have y:=g _ u;generalize Bk l i=k at o y;obtain⟨n,q,w,rs⟩:=k;replace o:(Ar l)[i]?=some (.agg [.str n,.str q,.slice w [] (As rs)]):=o;have x:=aHn (n:=n) (p:=q) (t:=[]) y.1 y.2;simp only[↓C2,H1,simprocAttr,Ah,Av,Aw,Qi,Qu,Qz,Qo,Qn,Qp,and_false,Qv,AW,Be,Ab c,z,Ab a,x,va,o,Qj,IW]
   ·cases h
  ·cases h
def aJ6:=y1 f190 3 [] []
def aJ5:=y1 f190 11 [] []
def aXi:=y0 f190 [] [(3,aJ6),(11,aJ5)]
def aNb:Fn Qf 190 36 aXi [.t 2]:=Aj func190
abbrev sz3:D->Bool:=kP 3
def PD:List D->Option D
 |[.slice _ _ L]=>match FD L with
  |some ys=>if L.length<=1000∧0<ys.length∧ys.length<=100000∧ys.all sz3=true then some (.slice false [] ys)else none
  |none=>none
 |_=>none
set_option maxRecDepth 20000 in
def cC(w:World)(k:Nat)(b:0<k)(g:k<=1000000):
  Calls Qf 306 #[.slice none 0 0,.int .i64 (k:Int)] w λe w'=>e= .returned (.slice (some ⟨w.heap.size,0,none⟩) 0 (grownCap w k 0 107))∧w'=w.drew.alloc (.cells (Builtin.zeroCells #[.string .empty,.string .empty,.slice none 0 0] k++Builtin.zeroCells #[.string .empty,.string .empty,.slice none 0 0] (grownCap w k 0 107-k)) 107):=by
 have z:=Lib.run_append_nil_zeros (P:=Qf) w 29 3 29 107 t107 (.agg #[.string .empty,.string .empty,.slice none 0 0]) .i64 .i64 underlying29 underlying3 Z Z k b V O (by show k*56<=_;omega)
 go_enter func306,ntmps306
 go_wp2_with (first|(at_builtin;refine Lib.wpList_append_run _ rfl _ _ _ _ rfl _ _ rfl rfl _ _ z ?_))
 all_goals go_ret
 all_goals exact⟨rfl,rfl⟩
def aUC:(DV 107).ok Qf 306:=by
 refine Ny (sz:=3) ⟨_,func306,Z,Z⟩ V ⟨t107,(.agg #[.string .empty,.string .empty,.slice none 0 0]),Z,Z,Z,Z⟩ (λw k b g=>?_);refine(cC w k b g).mono ?_;rintro e w' ⟨rfl,rfl⟩;refine⟨_,_,grownCap_le_maxLen w k 0 107 Xq,?_,rfl,rfl⟩;have x:=grownCap_ge w k 0 107;simp only[Zx,size_zeroCells];simp;omega
def UP{ds:List D}{r:D}(h:PD ds=some r):∃nl t L ys,ds=[.slice nl t L]∧FD L=some ys∧L.length<=1000∧0<ys.length∧ys.length<=100000∧ys.all (kP 3)=true∧r= .slice false [] ys:=by
 unfold PD at h;split at h
 ·grind
 ·cases h
def aUQ(a:(DV 107).ok Qf 306):Kq PD 253:=uP (pt:=9) (bytes:=56) (Aj func253:Fn Qf 253 36 aXf [.t 2]) O a λ_ _ h=>UP h
set_option maxRecDepth 20000 in
def cD(w:World)(k:Nat)(b:0<k)(g:k<=1000000):
  Calls Qf 250 #[.slice none 0 0,.int .i64 (k:Int)] w λe w'=>e= .returned (.slice (some ⟨w.heap.size,0,none⟩) 0 (grownCap w k 0 68))∧w'=w.drew.alloc (.cells (Builtin.zeroCells #[.string .empty,.int .i64 0,.bool false] k++Builtin.zeroCells #[.string .empty,.int .i64 0,.bool false] (grownCap w k 0 68-k)) 68):=by
 have z:=Lib.run_append_nil_zeros (P:=Qf) w 26 3 26 68 t68 (.agg #[.string .empty,.int .i64 0,.bool false]) .i64 .i64 underlying26 underlying3 Z Z k b V O (by show k*32<=_;omega)
 go_enter func250,ntmps250
 go_wp2_with (first|(at_builtin;refine Lib.wpList_append_run _ rfl _ _ _ _ rfl _ _ rfl rfl _ _ z ?_))
 all_goals go_ret
 all_goals exact⟨rfl,rfl⟩
def aMp:(DV 68).ok Qf 250:=by
 refine Ny (sz:=3) ⟨_,func250,Z,Z⟩ V ⟨t68,(.agg #[.string .empty,.int .i64 0,.bool false]),Z,Z,Z,Z⟩ (λw k b g=>?_);refine(cD w k b g).mono ?_;rintro e w' ⟨rfl,rfl⟩;refine⟨_,_,grownCap_le_maxLen w k 0 68 Xq,?_,rfl,rfl⟩;have x:=grownCap_ge w k 0 68;simp only[Zx,size_zeroCells];simp;omega
def aVf(a:(DV 68).ok Qf 250):Kq PD 190:=uP (pt:=9) (bytes:=32) aNb O a λ_ _ h=>UP h
def Bi:Tk:=([114,111,111,116],[],false,[([],63)])
def qJ:List D->Option D
 |[]=>some (IW Bi)
 |_=>none
def aMv:Kq qJ 133:=by
 refine AO (S:=λ_=>none) Ba (Aj func133:Fn Qf 133 4 aPa [.cell (some 3) 0]) (λds r h=>?_) (λds r h=>?_)
 ·grind [qJ]
 ·unfold qJ at h;split at h
  ·simp only[Qb]at h;subst h;unfold aPa;simp only[↓C2,H1,simprocAttr,Ah,Av,Aw,Qi,Qu,Qz,Qo,QB,QE,Qn,Qp,and_false,Qv,BC,AW,Cj,F_,Q_,QV,Zi,IW,Bi,As,rlD,Q0,QV]
  ·cases h
def F48:List D->Option D
 |[]=>some (.agg [.slice false [] (Ar [Bi])])
 |_=>none
def aUr:Kq F48 80:=by
 obtain⟨S,g,hl⟩:=By (Aa aMv Ad);have a:=hl 133 _ rfl;clear hl;refine AO (S:=S) g (Aj func80:Fn Qf 80 4 aW4 [.cell (some 1) 0]) (λds r h=>?_) (λds r h=>?_)
 ·grind [F48]
 ·unfold F48 at h;split at h
  ·simp only[Qb]at h;subst h;have w:qJ []=some (.agg [.str [114,111,111,116],.str [],.slice false [] [.agg [.str [],.int .u8 63]]]):=rfl;unfold aW4;simp only[↓C2,HE,simprocAttr,Ah,Av,Aw,Qx,Qw,Qh,Qk,Qm,Qg,and_self,Qi,Qz,Qo,QB,QE,Qn,Qp,Qv,BC,AW,Cj,F_,Q_,QV,Zi,Ab a,w,Ar,IW,Bi,As,rlD,Q0,QV]
  ·cases h
def BT(l:List Tk)(k:Tk):List Tk:=l.take (IZ l k.1)++k::l.drop (IZ l k.1)
open Classical in
def aBi:List D->Option D
 |[.agg [.slice _ _ xs],.agg [.str n,.str p,.slice nl _ ys]]=>if FU xs∧xs.length<=90000∧Pg nl ys then some (.agg [.slice false [] (Ar (BT (DG xs) (n,p,nl,Bv ys)))])else none
 |_=>none
open Classical in
def wS{nl0 nl:Bool}{t0 t:Id}{l:List Tk}{n p:Bs}{rs:List Rl}(hl:l.length<=90000)(i:rs.length<=1000000)(w:nl=true->rs=[]):
  aBi [.agg [.slice nl0 t0 (Ar l)],.agg [.str n,.str p,.slice nl t (As rs)]]=some (.agg [.slice false [] (Ar (BT l (n,p,nl,rs)))]):=by
 have h:FU (Ar l)∧(Ar l).length<=90000∧Pg nl (As rs):=⟨Fj O,by rw[Bp];exact hl,Nb i w⟩;show(if _ then _ else _)=_;rw[if_pos h,BU,A3]
def aMu:Kq aBi 195:=by
 obtain⟨S,hS,hl⟩:=By (Aa aCt (Aa aUp (Aa (aUQ aUC) Ad)));have u:=hl 40 _ rfl;have a:=hl 134 _ rfl;have b:=hl 253 _ rfl;clear hl;refine AO (S:=S) hS (Aj func195:Fn Qf 195 28 aO7 [.cell (some 1) 4]) (λds r h=>?_) (λds r h=>?_)
 ·unfold aBi at h;split at h
  ·simp
  ·cases h
 ·unfold aBi at h;split at h
  ·rename_i nl0 t0 xs n p nl t ys;split at h
   ·rename_i d;obtain⟨d,h9,q⟩:=d;obtain⟨l,rfl,hl,e⟩:=E8 d;obtain⟨rs,rfl,k,m,e2⟩:=LT q;rw[e,e2]at h;rw[Bp]at h9;simp only[Qb]at h;subst h;have z:=O7 (nl:=nl0) (t:=[]) (s:=n) hl;have ha:=aHn (n:=n) (p:=p) (t:=[]) k m;have sa:IZ l n<=l.length:=WF l n _ _ _ O;unfold BT;generalize IZ l n=i at z sa;generalize AY l n=o at z;have va:(0:Int)<=(i:Int):=by omega
    have g:(i:Int)<=(l.length:Int):=O
    have xa:l.length<=l.length:=QA _;have f:(Ar l).take i=Ar (l.take i):=(ZJ ..).symm;have j:((Ar l).drop i).take (l.length-i)=Ar (l.drop i):=by
     rw[Q9 (by rw[ZA,Bp];omega)];exact(List.map_drop ..).symm
    have c:PD [.slice false [] [.slice nl0 [] (Ar (l.take i)),.slice false [] [.agg [.str n,.str p,.slice nl [] (As rs)]],.slice nl0 [] (Ar (l.drop i))]]=some (.slice false [] (Ar (l.take i++(n,p,nl,rs)::l.drop i))):=by
     have v:FD [.slice nl0 [] (Ar (l.take i)),.slice false [] [.agg [.str n,.str p,.slice nl [] (As rs)]],.slice nl0 [] (Ar (l.drop i))]=some (Ar (l.take i++(n,p,nl,rs)::l.drop i)):=by
      simp[FD,Ar,IW]
     simp only[PD,v];rw[if_pos];refine⟨U,?_,?_,?_⟩
     ·grind [Bp]
     ·grind [Bp]
     ·rw[Qt];intro x w;obtain⟨y,_,rfl⟩:=QZ.1 w;rfl
    unfold aO7;simp only[↓C2,H1,simprocAttr,Ah,Av,Aw,Qi,Qz,Qo,QB,QE,Qn,Qp,and_false,Qv,Cj,F_,xC,Q_,QV,Zi,Ab u,z,Ab a,ha,Ab b,c,Bp,va,g,f,j,Qj,QA];refine A0 ?_;simp only[↓C2,HE,simprocAttr,Ah,Av,Aw,Qw,Qh,Qk,Qm,Qg,and_self,Qi,QB,Qn,Qv,BC,AW,QV,Zi,f,j,QA]
   ·cases h
  ·cases h
def eX{S:HD}{ns:Id}{a b l:List Rl}{nl na nb:Bool}{t ta tb:Id}{Q:Ex->St->Prop}{e:Bool}{p:D}{i:Int}(fa:S 41=some (Ac F95))(d:S 307=some (Ac aHx))
  (la:a.length<=1000000) (lb:b.length<=1000000) (pb:Cw b) (w:G8 a) (cb:G8 b) (x:l.length<=1000000) (ua:Cw l)
  (pa:∀v,e=false->v.s 4= .bool false->Q .ret v) (ga:∀v,e=true->v.s 0= .slice na ta (As a)->v.s 1= .slice nb tb (As b)->v.s 19=p->v.s 20= .int .i64 i->Q (.exit 2) v):
  ∀(f j:Nat) v g,l.length=j+f->E_ a b l f j=e->v.s 0= .slice na ta (As a)->v.s 1= .slice nb tb (As b)->v.s 19=p->v.s 20= .int .i64 i->v.s 23= .slice nl t (As l)->v.s 24= .int .i64 (l.length:Int)->v.s 25= .int .i64 (j:Int)->A9 S ns Rm Q v g:=by
 intro f;induction f with
 |zero=>
  intro j v g hf he h0 h1 m c o n ja;refine Af Rm.eq_1 ?_;have:¬((j:Int)<l.length):=O
  simp only[↓C2,HH,HZ,reduceIte,Qe,n,ja,this];exact ga _ he.symm h0 h1 m c
 |succ f ih=>
  intro j v g hf he h0 h1 m c o n ja;refine Af Rm.eq_1 ?_;unfold E_ at he;have z:j<l.length:=O
  have ea:((j:Int)<l.length):=O
  have oa:=nJ (j:=j);have hw:=wJ (j:=j) O;have ka:(As l)[j]?=some (.agg [.str (CK l j).1,.int .u8 (CK l j).2]):=PS z;have hq:=dZ ua z;unfold mF at he;generalize CK l j=r at ka hq he;obtain⟨q,k⟩:=r;simp only at ka hq he;have u:=qF (nl:=na) (t:=[]) (s:=q) la;have y:=uQ (s:=q) w;have h:=aLM (nl:=nb) (t:=[]) (s:=q) lb cb pb hq y.1 y.2;unfold N_ at h;generalize fR (DB b q).toNat (DB a q).toNat=hh at he h;obtain⟨ma,ia,da⟩:=v;simp only at h0 h1 m c o n ja;cases hh with
  |true=>
   rw[if_pos rfl]at he;simp only[↓C2,H1,reduceIte,Qd,Qe,h0,h1,o,n,ja,ea,oa,Qj,ka,Ab fa,u,Ab d,h,Ah,Av,Aw,QL,QY,Qi,Qu,Qz,Qo];refine A0 ?_;simp only[↓C2,HH,Iz,reduceIte,Qd,Qe,ja,hw];exact ih (j+1) _ _ O he h0 h1 m c o n rfl
  |false=>
   rw[if_neg U]at he;simp only[↓C2,H1,reduceIte,Qd,Qe,h0,h1,o,n,ja,ea,oa,Qj,ka,Ab fa,u,Ab d,h,Ah,Av,Aw,QL,QY,Qi,Qu,Qz,Qo];refine A0 ?_;simp only[↓C2,HH,Iz,reduceIte,Qd,Qe];exact pa _ he.symm rfl
def aVc:Kq aL5 254:=by
 obtain⟨S,s,hl⟩:=By (Aa eJ (Aa aQB (Aa aUR Ad)));have da:=hl 168 _ rfl;have q:=hl 41 _ rfl;have d:=hl 307 _ rfl;clear hl;refine AO (S:=S) s (Aj func254:Fn Qf 254 40 aO8 [.t 4]) (λds r h=>?_) (λds r h=>?_)
 ·grind [kM]
 ·obtain⟨na,ta,a,nb,tb,b,rfl,la,lb,pa,pb,w,cb,rfl⟩:=kM h;have ea:=W5 (nl:=na) (t:=[]) la pa;have eb:=W5 (nl:=nb) (t:=[]) lb pb;have g:=Oq a;have j:=Oq b;have n:=VA a;have k:=VA b;unfold aO8 Eu;generalize Cg a=xa at *;generalize Cg b=xb at *;by_cases f:xa=0
  ·by_cases i:xb=0
   ·subst f i;have z2:((2:Nat):Int)=2:=rfl;have z:IntKind.i64.wrap ((0:Int)+1)=1:=H9 O O;have w2:IntKind.i64.wrap ((1:Int)+1)=2:=H9 O O;rw[Zs];have x:a.all (mF a b)=E_ a b a a.length 0:=by rw[Lu _ _ _ _ _ O];rfl
    have hb:b.all (mF a b)=E_ a b b b.length 0:=by rw[Lu _ _ _ _ _ O];rfl
    rw[x,hb];simp only[↓C2,HE,reduceIte,Qd,Qe,Ab da,ea,eb,Cj,F_,QY,Qh,Qk,Qm,and_self,Qu,Qz,QB,QE];refine Af Rk.eq_1 ?_;simp only[↓C2,HH,HZ,reduceIte,Qd,Qe,A1,z2,ZO,Int.toNat_zero,ZC,Qg,and_self];refine eX (a:=a) (b:=b) (l:=a) (e:=E_ a b a a.length 0) q d la lb pb w cb la pa (λv u y=>?_) (λv he o u m c=>?_) a.length 0 _ _ O rfl rfl rfl rfl rfl rfl rfl rfl
    ·simp only[↓C2,HE,u,y,Za,ZF]
    ·simp only[↓C2,HE,reduceIte,Qd,Qe,c,he,z];refine Af Rk.eq_1 ?_;simp only[↓C2,HH,HZ,reduceIte,Qd,Qe,m,c,A1,z2,ZO,Int.toNat_one,Int.reduceLE,Qg,QM,and_self];refine eX (a:=a) (b:=b) (l:=b) (e:=E_ a b b b.length 0) q d la lb pb w cb lb pb (λv u y=>?_) (λv p o u m c=>?_) b.length 0 _ _ O rfl o u m rfl rfl rfl rfl
     ·simp only[↓C2,HE,u,y,he,ZF]
     ·simp only[↓C2,HE,reduceIte,Qd,Qe,c,he,p,w2];refine Af Rk.eq_1 ?_;simp only[↓C2,HE,reduceIte,Qd,Qe,c,he,p,Zn]
   ·simp only[↓C2,HE,reduceIte,Qd,Qe,Ab da,ea,eb,i,f]
    try simp
  ·simp only[↓C2,HE,reduceIte,Qd,Qe,Ab da,ea,f]
   try simp
def Eb(l:List Tk)(k:Tk):Option (List Tk)×Int:=
 if Fg k.1 k.2.1 k.2.2.2≠0 then(none,Fg k.1 k.2.1 k.2.2.2)else if k.2.1=[]then(none,2)else if AY l k.1=true then(none,20)else if AY l k.2.1=false then(none,6)
 else if Eu k.2.2.2 (Bk l (IZ l k.2.1)).2.2.2=false then(none,13)else(some (BT l k),0)
def RN(nl:Bool)(l:List Tk)(o:Option (List Tk)):D:=match o with
 |none=> .agg [.slice nl [] (Ar l)]
 |some f=> .agg [.slice false [] (Ar f)]
def I6(l:List Rl):Prop:=l.length<=1000000∧Cw l∧G8 l
open Classical in
def F50:List D->Option D
 |[.agg [.slice nl0 _ xs],.agg [.str n,.str p,.slice nl _ ys]]=>if(FU xs∧xs.length<=90000∧∀k∈DG xs,I6 k.2.2.2)∧Pg nl ys∧I6 (Bv ys)∧n.length<=1000000∧p.length<=1000000
   then some (.tup [RN nl0 (DG xs) (Eb (DG xs) (n,p,nl,Bv ys)).1,.int .i64 (Eb (DG xs) (n,p,nl,Bv ys)).2])else none
 |_=>none
def aUq:Kq F50 196:=by
 obtain⟨S,hS,hl⟩:=By (Aa aCy (Aa aCt (Aa aVc (Aa aMu Ad))));have a:=hl 135 _ rfl;have da:=hl 40 _ rfl;have f:=hl 254 _ rfl;have o:=hl 195 _ rfl;clear hl;refine AO (S:=S) hS (Aj func196:Fn Qf 196 54 aW3 [.cell (some 1) 4,.t 5]) (λds r h=>?_) (λds r h=>?_)
 ·unfold F50 at h;split at h
  ·simp
  ·cases h
 ·unfold F50 at h;split at h
  ·rename_i nl0 t0 xs n p nl t ys;split at h
   ·rename_i hc;obtain⟨⟨hc,h9,hk⟩,hr,g,v,hp⟩:=hc;obtain⟨l,rfl,hl,e⟩:=E8 hc;obtain⟨rs,rfl,w,m,e2⟩:=LT hr;rw[e,e2]at h;rw[e]at hk;rw[e2]at g;rw[Bp]at h9;simp only[Qb]at h;subst h;have z:=Ru (n:=n) (p:=p) (nl:=nl) (t:=[]) w g.2.1 v hp;have b:=O7 (nl:=nl0) (t:=[]) (s:=n) hl;have c:=O7 (nl:=nl0) (t:=[]) (s:=p) hl;have q:=wS (nl0:=nl0) (t0:=[]) (n:=n) (p:=p) (t:=[]) h9 w m;unfold aW3 Eb;simp only;generalize Fg n p rs=e at *;by_cases he:e=0
    ·subst he;by_cases d:p=[]
     ·subst d;simp only[↓C2,H1,simprocAttr,Ah,Av,Aw,Qi,Qo,Qn,Qp,and_false,Qv,AW,Be,Ab a,z,ne_eq];simp[RN];rfl
     ·cases h1:AY l n with
      |true=>
       rw[h1]at b;simp only[↓C2,H1,simprocAttr,Ah,Av,Aw,Qi,Qo,Qn,Qp,and_false,Qv,AW,Be,Ab a,z,Ab da,b,ne_eq,d];simp[RN];rfl
      |false=>
       rw[h1]at b;cases h2:AY l p with
       |false=>
        rw[h2]at c;simp only[↓C2,H1,simprocAttr,Ah,Av,Aw,Qi,Qo,Qn,Qp,and_false,Qv,AW,Be,Ab a,z,Ab da,b,c,ne_eq,d];simp[RN];rfl
       |true=>
        have hi:IZ l p<l.length:=by
         grind [AY]
        rw[h2]at c;generalize IZ l p=i at c hi;have va:(0:Int)<=(i:Int):=O
        have ka:=Hd (l:=l) (j:=i) hi;have hm:Bk l i∈l:=by simp[Bk,Qc hi]
        have y:=hk _ hm;generalize Bk l i=k at ka y;obtain⟨n2,p2,fa,u⟩:=k;replace ka:(Ar l)[i]?=some (.agg [.str n2,.str p2,.slice fa [] (As u)]):=ka;have x:=aL4 (na:=nl) (nb:=fa) (ta:=[]) (tb:=[]) w y.1 g.2.1 y.2.1 g.2.2 y.2.2;simp only at x;cases h3:Eu rs u with
        |false=>
         rw[h3]at x;simp only[↓C2,H1,simprocAttr,Ah,Av,Aw,Qi,QB,QE,QP,Qn,Qp,and_false,Qv,Ab a,z,Ab da,b,c,ne_eq,d,va,ka,Qj,Ab f,x];refine A0 ?_;simp only[↓C2,HE,simprocAttr,Ah,Av,Aw,Qx,Qw,Qh,Qk,Qm,Qg,and_self,Qi,Qo,Qn,Qp,Qv,AW,Be,d];simp[RN];rfl
        |true=>
         rw[h3]at x;simp only[↓C2,H1,simprocAttr,Ah,Av,Aw,Qi,QB,QE,QP,Qn,Qp,and_false,Qv,Ab a,z,Ab da,b,c,ne_eq,d,va,ka,Qj,Ab f,x];refine A0 ?_;simp only[↓C2,H1,simprocAttr,Ah,Av,Aw,Qi,Qo,Qn,Qp,and_false,Qv,AW,Be,Ab o,q,d];simp[RN];rfl
    ·simp only[↓C2,H1,simprocAttr,Ah,Av,Aw,Qi,Qo,Qn,Qp,and_false,Qv,AW,Be,Ab a,z,ne_eq,he];simp[RN];rfl
   ·cases h
  ·cases h
def aJr{S:HD}{l:List Tk}{nl0:Bool}{t0:Id}{Q:Ex->St->Prop}(q:l.length<=1000000)
  (b:∀v nl t,nl=decide (l.length=0)->v.s 3= .slice nl t (l.map λk=> .str k.1)->Q (.exit 0) v):
  ∀(f j:Nat) nl t v g,l.length=j+f->nl=decide (j=0)->Gw v.m v.c 9 nl t->v.s 3= .slice nl t ((l.take j).map λk=> .str k.1)->v.s 7= .slice nl0 t0 (Ar l)->v.s 8= .int .i64 (l.length:Int)->v.s 9= .int .i64 (j:Int)->A9 S [] Ri Q v g:=by
 intro f;induction f with
 |zero=>
  intro j nl t v g hf w a o h7 h8 h9;refine Af Ri.eq_1 ?_;have:¬((j:Int)<l.length):=O
  simp only[↓C2,HH,HZ,reduceIte,Qe,h8,h9,this];refine b _ nl t (by rw[w,show j=l.length by omega]) ?_;rw[show j=l.length by omega,Zp]at o;exact o
 |succ f ih=>
  intro j nl t v g hf w a o h7 h8 h9;refine Af Ri.eq_1 ?_;have u:j<l.length:=O
  have d:((j:Int)<l.length):=O
  have oa:=nJ (j:=j);have hw:=wJ (j:=j) O;have i:=Hd (l:=l) (j:=j) u;have qa:(l.take (j+1)).map (λk:Tk=>D.str k.1)=(l.take j).map (λk:Tk=>D.str k.1)++[.str (Bk l j).1]:=by
   rw[Zb u,List.map_append];simp[Bk,Qc u]
  have x:((l.take j).map (λk:Tk=>D.str k.1)).length=j:=Xb
  have na:nl=true->(l.take j).map (λk:Tk=>D.str k.1)=[]:=by
   simp_all
  generalize (l.take j).map (λk:Tk=>D.str k.1)=z at o qa x na;generalize Bk l j=k at i qa;obtain⟨n,p,r,rs⟩:=k;replace i:(Ar l)[j]?=some (.agg [.str n,.str p,.slice r [] (As rs)]):=i;obtain⟨e,y,da⟩:=v;simp only at o h7 h8 h9 a qa;simp only[↓C2,H1,simprocAttr,o,h7,h8,h9,d,oa,Qj,i,Ah,Av,Aw,Qi,Qu,Qz,Qo,and_false];refine aB ⟨O,rfl,?_⟩ ?_
  ·first
    |exact(a.put.put.more O).grow O
    |exact(Gw.put (Gw.put a O) O).grow O
  rw[BF na,←qa];simp only[↓C2,HE,simprocAttr,h9,hw];refine ih (j+1) false _ _ _ O U ?_ rfl h7 h8 rfl;exact Gw.new Xa
open Classical in
def qH:List D->Option D
 |[.agg [.slice _ _ xs]]=>if FU xs then some (.slice (decide ((DG xs).length=0)) [] ((DG xs).map λk=> .str k.1))else none
 |_=>none
def aVb:Kq qH 19:=by
 refine AO (S:=λ_=>none) Ba (Aj func19:Fn Qf 19 20 aO0 [.t 2]) (λds r h=>?_) (λds r h=>?_)
 ·unfold qH at h;split at h
  ·simp
  ·cases h
 ·unfold qH at h;split at h
  ·rename_i nl t xs;split at h
   ·rename_i d;obtain⟨l,rfl,hl,e⟩:=E8 d;rw[e]at h;simp only[Qb]at h;subst h;unfold aO0;simp only[↓C2,HH,Iz,simprocAttr,Bp,Ah,Qx,Qw,Qh,Qk,Qm,Qg,and_self];refine aJr (l:=l) (nl0:=nl) (t0:=t) hl (λv nl' c u y=>?_) l.length 0 true [] _ _ O U (.inl rfl) rfl rfl rfl rfl;simp only[↓C2,HE,simprocAttr,y];rw[u]
    first|done|rfl|exact⟨rfl,rfl⟩
   ·cases h
  ·cases h
def aOI:=y0 f265 [] []
def aNt:=y0 f241 [] []
def aNY:=y0 f170 [] []
def aBc:List D->Option D
 |[.int .i64 n,.int .i64 lo,.int .i64 hi]=>some (.bool (decide (lo<=n∧n<=hi)))
 |_=>none
def aMm:Kq aBc 170:=by
 refine AO (S:=λ_=>none) Ba (Aj func170:Fn Qf 170 15 aNY [.t 6]) (λds r h=>?_) (λds r h=>?_)
 ·unfold aBc at h;split at h
  ·simp
  ·cases h
 ·unfold aBc at h;split at h
  ·rename_i n lo hi;simp only[Qb]at h;subst h;unfold aNY;simp only[↓C2,HH,simprocAttr]
   repeat' (first|(refine aG (λh=>?_) (λh=>?_)<;>try (exfalso;omega))|(simp only[↓C2,HE,simprocAttr,h,and_self,false_and]))
   all_goals (simp_all<;>omega)
  ·cases h
def aA5:D->D->Option D
 | .junk,.int .i64 x=>some (.bool (!decide (1<=x∧x<=999)))
 |_,_=>none
def aSd:(Lv aA5).ok Qf 241:=by
 obtain⟨S,g,hl⟩:=By (Aa aMm Ad);have f:=hl 170 _ rfl;clear hl;refine OT (S:=S) g (Aj func241:Fn Qf 241 6 aNt [.t 2]) (λx caps m fr c d p z j hl=>⟨O,?_⟩);unfold aA5 at z;split at z
 ·rename_i n;simp only[Qb]at z;subst z;have a:∀n lo hi,aBc [.int .i64 n,.int .i64 lo,.int .i64 hi]=some (.bool (decide (lo<=n∧n<=hi))):=λ_ _ _=>rfl
  unfold aNt;simp only[↓C2,HE,simprocAttr,Ab f,a]
  try exact λi o y h=>h
 ·cases z
def aRP:(Gp 241 none aA5).ok Qf 293:=OF O aWK rfl aSd
def aXk:(kS 241 none aA5).ok Qf 240:=uK O aWL aRP
def sG(nl:Bool)(xs:List D):Prop:=xs=Az (DI xs)∧xs.length<=1000000∧(nl=true->xs=[])
def aCH{nl:Bool}{l:List Mt}(hl:l.length<=1000000)(w:nl=true->l=[]):sG nl (Az l):=⟨by rw[BW],by rw[AX];exact hl,λh=>by rw[w h];rfl⟩
def yH{nl:Bool}{xs:List D}(h:sG nl xs):∃l:List Mt,xs=Az l∧l.length<=1000000∧(nl=true->l=[])∧DI xs=l:=by
 refine⟨DI xs,h.1,?_,λw=>?_,rfl⟩
 ·have:=h.2.1;rw[h.1,AX]at this;exact this
 ·rw[h.2.2 w];rfl
def zH(bs:List Bool):Bc bs<bs.length:=by
 unfold Bc;cases h:bs.findIdx? id with
 |none=>simp only;omega
 |some k=>
  rw[QT]at h;obtain⟨g,_⟩:=h;simp only;omega
def SD(l:List Mt)(p:Bs):BE l p<l.length:=by
 have:=zH (l.map λm=>decide (m.1=p));rw[Qy]at this;exact this
open Classical in
def aHC:List D->Option D
 |[.agg [.slice _ _ xs],.str p]=>if xs=Az (DI xs)∧xs.length<=1000000 then some (.tup (if BE (DI xs) p<0 then [Ml ([],0,false),.int .i64 14]else [Ml (BS (DI xs) (BE (DI xs) p).toNat),.int .i64 0]))else none
 |_=>none
def aU4:Kq aHC 265:=by
 obtain⟨S,g,hl⟩:=By (Aa aCz Ad);have c:=hl 187 _ rfl;clear hl;refine AO (S:=S) g (Aj func265:Fn Qf 265 18 aOI [.cell (some 3) 4,.t 5]) (λds r h=>?_) (λds r h=>?_)
 ·unfold aHC at h;split at h
  ·simp
  ·cases h
 ·unfold aHC at h;split at h
  ·rename_i nl t xs p;split at h
   ·rename_i d;obtain⟨w,hl⟩:=d;simp only[Qb]at h;subst h;generalize DI xs=l at w;subst w;rw[AX]at hl;have z:=Rv (nl:=nl) (t:=[]) (p:=p) hl;have k:=SD l p;unfold aOI;generalize BE l p=i at z k;by_cases hi:i<0
    ·simp only[↓C2,H1,simprocAttr,Ah,Av,Aw,Qi,Qo,Qn,Qp,QQ,and_false,AW,Be,Cj,Ab c,z,hi];simp[Ml];rfl
    ·obtain⟨j,rfl⟩:=QX (show 0<=i by omega);have u:j<l.length:=by omega
     have a:=nJ (j:=j);have o:(Az l)[j]?=some (.agg [.str (BS l j).1,.int .i64 (BS l j).2.1,.bool (BS l j).2.2]):=Np u;simp only[↓C2,H1,simprocAttr,Ah,Av,Aw,Qi,Qu,Qz,Qo,Qn,Qp,QQ,and_false,AW,Be,Ab c,z,hi,a,o,Qj];simp[Ml];rfl
   ·cases h
  ·cases h
def fZ{bs:List Bool}{j:Nat}(h:bs[j]?=some true)(f:∀i,i<j->bs[i]?=some false):Bc bs=j:=by
 have z:j<bs.length:=(Qq.1 h).1;have:bs.findIdx? id=some j:=by
  rw[QT];refine⟨z,by rw[Qc z]at h;simpa using h,λi hi=>?_⟩;have:=f i hi;rw[Qc O]at this;simp[Qb]at this;simp[this]
 simp only[Bc,this]
def gA{bs:List Bool}(f:∀i,i<bs.length->bs[i]?=some false):Bc bs=-1:=by
 have:bs.findIdx? id=none:=Zl.2 λb c=>by
  obtain⟨i,hi,rfl⟩:=QW c;have:=f i hi;rw[Qc hi]at this;simpa using QG this
 simp only[Bc,this]
def A5(l:List Mt)(p:Bs):Int:=Bc (l.map λm=>Bo p m.1)
def aPd:=y0 f191 [] []
def uF:=y1 f251 2 [] []
def aOs:=y0 f251 [] [(2,uF)]
def P8:=y1 f296 4 [] []
def P7:=y1 f296 1 [] [(4,P8)]
def aNM:=y0 f296 [] [(1,P7)]
def aOr:=y0 f252 [] []
def aNL:=y0 f305 [] []
def aW5:=y0 f129 [(6,[(3,1)])] []
def m0t:Mt:=([],0,false)
def mS(a b:Mt):Bool:=decide (C0 a.1 b.1<0)
def aZJ(i:Id)(m:HF)(xs:List Mt):Prop:=∀j,j<xs.length->m i (j*3)=some (.str (xs.getD j m0t).1)∧m i (j*3+1)=some (.int .i64 (xs.getD j m0t).2.1)∧m i (j*3+2)=some (.bool (xs.getD j m0t).2.2)
structure O3 (i:Id) (m0 m:HF) (xs:List Mt):Prop where
 row:aZJ i m xs
 out:∀i' o,(i'≠i∨xs.length*3<=o)->m i' o=m0 i' o
def O3.put{i:Id}{m0 m:HF}{xs:List Mt}(h:O3 i m0 m xs){j:Nat}(u:j<xs.length){p:Bs}{q:Int}{b:Bool}:O3 i m0 (m.put i (j*3) [.str p,.int .i64 q,.bool b]) (xs.set j (p,q,b)):=by
 refine⟨λk g=>?_,λy o ho=>?_⟩
 ·rw[Zt]at g;by_cases e:k=j
  ·grind [m0t,Ah]
  ·have a:(xs.set j (p,q,b)).getD k m0t=xs.getD k m0t:=by simp[Zy,List.getElem?_set_ne (Ne.symm e)]
   rw[a];have w:∀d,d<3->¬(i=i∧j*3<=k*3+d∧k*3+d<j*3+[D.str p,.int .i64 q,.bool b].length):=by
    intro d z;simp;omega
   obtain⟨a1,f,c⟩:=h.row k g;exact⟨by rw[Ah,if_neg (by have:=w 0 O;rwa [Q8]at this)];exact a1,by rw[Ah,if_neg (w 1 O)];exact f,by rw[Ah,if_neg (w 2 O)];exact c⟩
 ·rw[Zt]at ho;rw[Ah,if_neg (by rintro⟨e,h1,h2⟩;simp at h2;rcases ho with ho|ho;exact ho e;omega)];exact h.out y o ho
def O3.swp{i:Id}{m0 m:HF}{xs:List Mt}(h:O3 i m0 m xs){j:Nat}(z:j+1<xs.length){x y:Mt}(p:xs.getD j m0t=x)(s:xs.getD (j+1) m0t=y):
  O3 i m0 ((m.put i ((j+1)*3) [.str x.1,.int .i64 x.2.1,.bool x.2.2]).put i (j*3) [.str y.1,.int .i64 y.2.1,.bool y.2.2]) (Go.Vd.swp m0t xs j):=by
 unfold Go.Vd.swp;rw[p,s];exact(h.put (j:=j+1) z).put (by rw[Zt];omega)
def h108(a b:Mt):aBj [Ml a,Ml b]=some (.int .i64 (C0 a.1 b.1)):=rfl
def aCV{S:HD}{fr i:Id}{n:Nat}{m0:HF}{i8:Nat}{Q:Ex->St->Prop}(a:S 192=some (Ac aBj))(w:n<=1000):
  ∀(j:Nat)(xs:List Mt) v g,xs.length=n->j<n->v.s 0= .row i n->v.s 1= .int .i64 0->v.s 2= .int .i64 (n:Int)->v.s 3= .fn 192 []->v.s 8= .int .i64 (i8:Int)->v.s 9= .int .i64 (j:Int)->O3 i m0 v.m xs->
   (∀q,q.s 0= .row i n->q.s 1= .int .i64 0->q.s 2= .int .i64 (n:Int)->q.s 3= .fn 192 []->q.s 8= .int .i64 (i8:Int)->O3 i m0 q.m (Sq mS m0t xs j)->Q (.exit 2) q)->A9 S fr P8 Q v g:=by
 intro j;induction j with
 |zero=>
  intro xs v g hl hj h0 u f o h8 h9 I z;refine Af P8.eq_1 ?_;have e:¬((0:Int)<((0:Nat):Int)):=O
  simp only[↓C2,HH,HZ,simprocAttr,u,h9,e];refine A0 ?_;simp only[↓C2,HH,reduceIte,Qd];exact z _ h0 u f o h8 I
 |succ j ih=>
  intro xs v g hl hj h0 u f o h8 h9 I z;refine Af P8.eq_1 ?_;have e:((0:Int)<((j+1:Nat):Int)):=O
  have w1:IntKind.i64.wrap (((j+1:Nat):Int)-1)=(j:Int):=Xi
  have oa:=nJ (j:=j);have d:(0:Int)<=((j+1:Nat):Int):=O
  have ra:((j:Int)<(n:Int)):=O
  have c:(((j+1:Nat):Int)<(n:Int)):=O
  have bn:(3=1)=False:=U
  obtain⟨a0,a1,a2⟩:=I.row j O;obtain⟨b0,b1,b2⟩:=I.row (j+1) O;obtain⟨x,p⟩:∃x,xs.getD j m0t=x:=⟨_,rfl⟩;obtain⟨y,hy⟩:∃y,xs.getD (j+1) m0t=y:=⟨_,rfl⟩;have ga:=z;unfold Sq at ga;have k:mS (xs.getD (j+1) m0t) (xs.getD j m0t)=decide (C0 (xs.getD (j+1) m0t).1 (xs.getD j m0t).1<0):=rfl;rw[k]at ga;rw[p]at a0 a1 a2 ga;rw[hy]at b0 b1 b2 ga;clear k;have r:=h108 y x;simp only[Ml]at r;obtain⟨ma,ia,t⟩:=v;simp only at h0 u f o h8 h9 a0 a1 a2 b0 b1 b2 I;by_cases k:C0 y.1 x.1<0
  ·rw[if_pos (by simpa using k)]at ga;have q1:((j+1)*3<=j*3)=False:=eq_false O;have q2:((j+1)*3<=j*3+1)=False:=eq_false O;have q3:((j+1)*3<=j*3+1+1)=False:=eq_false O;have b:decide (C0 y.1 x.1<0)=true:=by simpa using k
   simp only[↓C2,HE,simprocAttr,h0,u,o,h9,e,oa,d,ra,c,w1,bn,Qj,a0,a1,a2,b0,b1,b2,k,Ab a,r,Av,Aw,and_self,Qi];refine A0 ?_;simp only[↓C2,HH,Iz,simprocAttr,h0,h9,oa,d,ra,c,w1,bn,Qj,a0,a1,a2,b0,b1,b2,q1,q2,q3,false_and,and_false,Ah,Av,Aw,Qh,Qk,Qm,and_self,Qi,Qo];refine A0 ?_;simp only[↓C2,HH,simprocAttr,h9,w1,bn];refine ih _ _ _ (by rw[rB];exact hl) O h0 u f o h8 rfl ?_ ga;exact I.swp O p hy
  ·rw[if_neg (by simpa using k)]at ga;simp only[↓C2,HE,simprocAttr,h0,u,o,h9,e,oa,d,ra,c,w1,bn,Qj,a0,a1,a2,b0,b1,b2,k,Ab a,r,Av,Aw,and_self,Qi];refine A0 ?_;simp only[↓C2,HH,reduceIte,Qd,bn];exact ga _ h0 u f o h8 I
end Go.Vd
end
