/- A part of the proof; nothing in it is assumed. -/
import Derived.Test.YtpiplnfjodahpaaGreatDoorMErrorsP1
import Derived.Test.YtpiplnfjodahpaaGreatDoorProg
import Derived.Shelf.Strings.Split
import Init
import Derived.Shelf.Strings.OnBuilder
import Derived.Lib.AppendZeros

set_option linter.unusedSimpArgs false
set_option linter.unusedVariables false
set_option linter.defProp false
set_option maxHeartbeats 4000000
set_option maxRecDepth 100000
open And renaming intro→Qa
open Option.some renaming injEq→Qb,inj→QF
open List renaming getElem?_eq_getElem→Qc,getElem?_cons_zero→Qg,length_cons→Qh,length_nil→Qk,getElem?_eq_some_iff→Qq,mem_of_getElem?→Qr,all_eq_true→Qt,take_succ_cons→Qu,length_map→Qy,take_zero→Qz,drop_zero→QB,map_congr_left→QD,drop_succ_cons→QE,suffix_cons→QI,map_map→QJ,getElem?_take_of_lt→QK,getElem?_cons_succ→QM,getElem?_map→QN,head?_cons→QP,findIdx?_eq_some_iff_getElem→QT,getElem?_append_left→QU,map_nil→QV,getElem_of_mem→QW,mem_map→QZ,nil_append→Q_,map_cons→Q0,mem_cons_of_mem→Q1,getElem?_append_right→Q2,drop_eq_getElem_cons→Q4,mem_cons_self→Q5,length_append→Q6,replicate→Q7,take_of_length_le→Q9,take_succ_eq_append_getElem→Zb,append_assoc→Zc,cons_append→Zd,getElem_mem→Ze,count_eq_zero_of_not_mem→Zf,length_take_le→Zg,all_nil→Zi,findIdx?_eq_none_iff→Zl,mem_cons→Zm,length_eq_zero_iff→Zo,take_length→Zp,suffix_refl→Zq,all_append→Zs,length_set→Zt,getElem?_take→Zw,getD→Zy,length_drop→ZA,map_id→ZB,drop_drop→ZE,all_cons→ZI,map_take→ZJ,getLast?→ZK,any_map→ZN,map→ZP,length→ZQ
open Nat renaming reduceEqDiff→Qd,reduceAdd→Qe,zero_add→Qm,zero_ne_one→Qp,succ_ne_zero→Qv,sub_zero→Qw,zero_le→Qx,le_refl→QA,le_of_ble_eq_true→QH,reduceLT→QL,one_ne_zero→QQ,le_trans→QR,reduceLeDiff→QY,add_zero→Q8,lt_of_lt_of_le→Zj,land→Zr,eq_zero_or_pos→Zu,add_sub_cancel→Zv,le_max_right→Zz
open Go.Proofs.Tryz renaming prog→Qf
open Option renaming bind_some→Qi,map_eq_some_iff→Ql,isSome_some→Qo,bind_eq_some_iff→QC,map_some→QO
open Int renaming toNat_natCast→Qj,eq_ofNat_of_zero_le→QX,cast_ofNat_Int→Zk,lt_irrefl→Zn,le_refl→ZC,reduceLT→ZO
open List.cons renaming injEq→Qn
open Prod.mk renaming injEq→Qs
open Array renaming getElem?_eq_some_iff→QG,getD_eq_getD_getElem?→Zh,size_append→Zx
open Bool renaming false_eq_true→QS,and_eq_true→Q3,false_and→Za,not_false→ZD,and_false→ZF,true_and→ZG,not_true→ZH,false_or→ZL,or_false→ZM
open Prod renaming ext→ZR
open Go.Proofs.Tryz
noncomputable section
namespace Go.Vd
open Go.RowKit
section
variable{S:Gq}{s:Nat->D}{m:Gu}{fr:Id}{K:D->GA->Prop}
def aVq{x:Gz}:Az S s m fr (.mv x) K=GL (some (x.ev s)) (λd=>K d []) .mk:=by simp[Az,Aw,GL]
def yQ:D->D->D->(K:D->GA->Prop)->Tag K->Prop
 | .bool t,a,b,K,_=>N3 (t=true) (K a []) (K b []) .mk
 |_,_,_,_,_=>False
def fH{t:Bool}{a b:D}{g:Tag K}:yQ (.bool t) a b K g=N3 (t=true) (K a []) (K b []) .mk:=rfl
def aMP{c a b:Gz}:Az S s m fr (.pick c a b) K=yQ (c.ev s) (a.ev s) (b.ev s) K .mk:=by
 simp only[Az,Aw];unfold yQ;cases c.ev s<;>simp only[AO];rename_i t;cases t<;>simp[GL,N3]
def aER{zs:List D}:Az S s m fr (.alloc zs) K=GL (some fr) (λfr=>K (.ptr fr 0) [(fr,0,zs)]) .mk:=by simp[Az,Aw,GL]
def aQE{x:Gz}:Az S s m fr (.box x) K=GL (some fr) (λfr=>GL (some (x.ev s)) (λd=>Ao (d.data=true) (K (.ptr fr 0) [(fr,0,d.cells)]) .mk) .mk) .mk:=by
 simp only[Az,Aw];rw[Ee,AZ,AZ,AZ]
def aEQ{zs:List D}{z:List (Nat×Nat×Gz)}:Az S s m fr (.build zs z) K=GL (B7 zs (z.map λp=>(p.1,p.2.1,p.2.2.ev s))) (λcs=>K (.agg cs) []) .mk:=by
 simp_all [Az,Aw,Co]
def vX{e sz:Nat}{z:List Gz}:Az S s m fr (.bslice e sz z) K=GL (some fr) (λfr=>GL (some (z.map λp=>p.ev s)) (λds=>Ao ((ds.all λd=>d.data&&d.cells.length==sz&&d.un.calm)=true) (K (.slice false fr (ds.map D.un)) [(fr,0,[.tok (e+1)])]) .mk) .mk) .mk:=by
 simp only[Az,Aw];rw[Ee,AZ,AZ,AZ,List.all_map,QJ];rfl
def Ps:Option Nat->D->(m:Gu)->(K:D->GA->Prop)->Tag (m,K)->Prop
 |none,.ptr i o,m,K,_=>GL (m i o) (λd=>K d []) .mk
 |some n,.ptr i o,m,K,_=>GL (Ag m i o n) (λds=>K (.agg ds) []) .mk
 |none,.eptr ds,m,K,_=>GL ds.head? (λd=>K d []) .mk
 |some n,.eptr ds,m,K,_=>Ao (n<=ds.length) (K (.agg (ds.take n)) []) .mk
 |_,_,_,_,_=>False
def qX{i:Id}{o:Nat}{g:Tag (m,K)}:Ps none (.ptr i o) m K g=GL (m i o) (λd=>K d []) .mk:=rfl
def gA{i:Id}{o n:Nat}{g:Tag (m,K)}:Ps (some n) (.ptr i o) m K g=GL (Ag m i o n) (λds=>K (.agg ds) []) .mk:=rfl
def Pr{ds:List D}{g:Tag (m,K)}:Ps none (.eptr ds) m K g=GL ds.head? (λd=>K d []) .mk:=rfl
def NL{ds:List D}{n:Nat}{g:Tag (m,K)}:Ps (some n) (.eptr ds) m K g=Ao (n<=ds.length) (K (.agg (ds.take n)) []) .mk:=rfl
def aMU{k:Option Nat}{x:Gz}:Az S s m fr (.load k x) K=Ps k (x.ev s) m K .mk:=by
 simp only[Az,Aw];unfold Ps;cases x.ev s<;>cases k<;>simp only[AO,Co,Fh]
def eU(n:Nat):D->D->(m:Gu)->(K:D->GA->Prop)->Tag (m,K)->Prop
 | .ptr i o,d,m,K,_=>Ao (d.data=true∧d.cells.length=n∧(Ag m i o n).isSome=true) (K .junk [(i,o,d.cells)]) .mk
 |_,_,_,_,_=>False
def eT{n:Nat}{i:Id}{o:Nat}{d:D}{g:Tag (m,K)}:eU n (.ptr i o) d m K g=Ao (d.data=true∧d.cells.length=n∧(Ag m i o n).isSome=true) (K .junk [(i,o,d.cells)]) .mk:=rfl
def aEJ{n:Nat}{x v:Gz}:Az S s m fr (.store n x v) K=eU n (x.ev s) (v.ev s) m K .mk:=by
 simp only[Az,Aw];unfold eU;cases x.ev s<;>simp only[AO,Fh]
def IM:D->(K:D->GA->Prop)->Tag K->Prop
 | .ptr i o,K,_=>K (.ptr i o) []
 | .eptr ds,K,_=>K (.eptr ds) []
 | .fn f cs,K,_=>K (.fn f cs) []
 |_,_,_=>False
def Wa{i:Id}{o:Nat}{g:Tag K}:IM (.ptr i o) K g=K (.ptr i o) []:=rfl
def T7{ds:List D}{g:Tag K}:IM (.eptr ds) K g=K (.eptr ds) []:=rfl
def fP{f:FuncId}{cs:List D}{g:Tag K}:IM (.fn f cs) K g=K (.fn f cs) []:=rfl
def vW{x:Gz}:Az S s m fr (.nilchk x) K=IM (x.ev s) K .mk:=by
 simp only[Az,Aw];unfold IM;cases x.ev s<;>simp[AO,AZ]
def fF(fr:Id):D->(K:D->GA->Prop)->Tag K->Prop
 | .str b,K,_=>K (.itp fr) [(fr,1,[.it b 0])]
 |_,_,_=>False
def fE{b:List UInt8}{g:Tag K}:fF fr (.str b) K g=K (.itp fr) [(fr,1,[.it b 0])]:=rfl
def aEK{x:Gz}:Az S s m fr (.range x) K=fF fr (x.ev s) K .mk:=by
 simp only[Az,Aw];unfold fF;cases x.ev s<;>simp[AO,AZ]
def lT(i:Id):D->(K:D->GA->Prop)->Tag K->Prop
 | .it b z,K,_=>N3 (z<b.length) (K (.tup [.bool true,.int .i64 (z:Nat),.int .i32 (Utf8.decode ⟨b.toArray⟩ z).1]) [(i,1,[.it b (z+(Utf8.decode ⟨b.toArray⟩ z).2)])]) (K (.tup [.bool false]) []) .mk
 |_,_,_=>False
def zJ{i:Id}{b:List UInt8}{z:Nat}{g:Tag K}:lT i (.it b z) K g=N3 (z<b.length) (K (.tup [.bool true,.int .i64 (z:Nat),.int .i32 (Utf8.decode ⟨b.toArray⟩ z).1]) [(i,1,[.it b (z+(Utf8.decode ⟨b.toArray⟩ z).2)])]) (K (.tup [.bool false]) []) .mk:=rfl
def zI:D->(m:Gu)->(K:D->GA->Prop)->Tag (m,K)->Prop
 | .itp i,m,K,_=>GL (m i 1) (λx=>lT i x K .mk) .mk
 |_,_,_,_=>False
def qR{i:Id}{g:Tag (m,K)}:zI (.itp i) m K g=GL (m i 1) (λx=>lT i x K .mk) .mk:=rfl
def aMQ{x:Gz}:Az S s m fr (.next x) K=zI (x.ev s) m K .mk:=by
 simp only[Az,Aw];unfold zI;cases x.ev s<;>try (simp only[AO];done)
 rename_i i;simp only;cases m i 1 with
 |none=>simp only[AO]
 |some d=>
  simp only[AZ];unfold lT;cases d<;>simp only[AO];rename_i b z;rw[aIm,AZ,AZ]
def aQF{op:BinOp}{x y:Gz}:Az S s m fr (.bin op x y) K=GL (AM op (x.ev s) (y.ev s)) (λd=>K d []) .mk:=XY
def aVp{op:UnOp}{x:Gz}:Az S s m fr (.un op x) K=GL (rX op (x.ev s)) (λd=>K d []) .mk:=XY
def aGZ(ne:Bool):D->D->Option D
 | .bool a,.bool b=>some (.bool ((a==b)!=ne))
 |_,_=>none
def aPj{a b:Bool}:aGZ false (.bool a) (.bool b)=some (.bool (decide (a=b))):=by cases a<;>cases b<;>rfl
def aPi{a b:Bool}:aGZ true (.bool a) (.bool b)=some (.bool (decide (a≠b))):=by cases a<;>cases b<;>rfl
def aQG{ne:Bool}{x y:Gz}:Az S s m fr (.beq ne x y) K=GL (aGZ ne (x.ev s) (y.ev s)) (λd=>K d []) .mk:=by
 simp only[Az,Aw];unfold aGZ;cases x.ev s<;>cases y.ev s<;>simp[AO,AZ]
def aNm(ne:Bool)(a:List (Nat×Nat)):D->D->Option D
 | .agg xs,.agg ys=>(A8 xs ys a).map λb=> .bool (b !=ne)
 |_,_=>none
def O2{ne:Bool}{a:List (Nat×Nat)}{xs ys:List D}:aNm ne a (.agg xs) (.agg ys)=(A8 xs ys a).map λb=> .bool (b !=ne):=rfl
def aQy{ne:Bool}{a:List (Nat×Nat)}{x y:Gz}:Az S s m fr (.seq ne a x y) K=GL (aNm ne a (x.ev s) (y.ev s)) (λd=>K d []) .mk:=by
 simp only[Az,Aw];unfold aNm;cases x.ev s<;>cases y.ev s<;>simp[AO,Co]
def aEL{ne:Bool}{k:Nat}{x y:Gz}:Az S s m fr (.nileq ne k x y) K=GL (L0 k (x.ev s) (y.ev s)) (λb=>K (.bool (b !=ne)) []) .mk:=XY
def aCr(k:IntKind):D->Option D
 | .int _ n=>some (.int k (k.wrap n))
 |_=>none
def sS{k r:IntKind}{n:Int}:aCr k (.int r n)=some (.int k (k.wrap n)):=rfl
def aM0{k:IntKind}{x:Gz}:Az S s m fr (.conv k x) K=GL (aCr k (x.ev s)) (λd=>K d []) .mk:=by
 simp only[Az,Aw];unfold aCr;cases x.ev s<;>simp[AO,AZ]
def aNo:D->Option D
 | .str b=>some (.str b)
 |_=>none
def xG{b:List UInt8}:aNo (.str b)=some (.str b):=rfl
def aQz{x:Gz}:Az S s m fr (.s2s x) K=GL (aNo (x.ev s)) (λd=>K d []) .mk:=by
 simp only[Az,Aw];unfold aNo;cases x.ev s<;>simp[AO,AZ]
def aNp:D->Option D
 | .str b=>some (.slice false [] (Ax b))
 |_=>none
def xH{b:List UInt8}:aNp (.str b)=some (.slice false [] (Ax b)):=rfl
def aQA{x:Gz}:Az S s m fr (.s2b x) K=GL (aNp (x.ev s)) (λd=>K d []) .mk:=by
 simp only[Az,Aw];unfold aNp;cases x.ev s<;>simp[AO,AZ]
def aG1:D->Option D
 | .slice _ _ xs=>(Bp xs).map .str
 |_=>none
def jI{nl:Bool}{t:Id}{xs:List D}:aG1 (.slice nl t xs)=(Bp xs).map .str:=rfl
def aQH{x:Gz}:Az S s m fr (.b2s x) K=GL (aG1 (x.ev s)) (λd=>K d []) .mk:=by
 simp only[Az,Aw];unfold aG1;cases x.ev s<;>simp[AO,Co]
def EL(off:Nat):D->Option D
 | .ptr i o=>some (.ptr i (o+off))
 | .eptr ds=>if off<=ds.length then some (.eptr (ds.drop off))else none
 |_=>none
def iB{off:Nat}{i:Id}{o:Nat}:EL off (.ptr i o)=some (.ptr i (o+off)):=rfl
def W7{off:Nat}{ds:List D}:EL off (.eptr ds)=if off<=ds.length then some (.eptr (ds.drop off))else none:=rfl
def aEP{off:Nat}{x:Gz}:Az S s m fr (.faddr off x) K=GL (EL off (x.ev s)) (λd=>K d []) .mk:=by
 simp only[Az,Aw];unfold EL;cases x.ev s<;>simp only[AO,Fh,AZ]
def Um(off:Nat):Option Nat->D->Option D
 |none,.agg cs=>cs[off]?
 |some n,.agg cs=>if off+n<=cs.length then some (.agg ((cs.drop off).take n))else none
 |_,_=>none
def W5{off:Nat}{cs:List D}:Um off none (.agg cs)=cs[off]?:=rfl
def iA{off n:Nat}{cs:List D}:Um off (some n) (.agg cs)=if off+n<=cs.length then some (.agg ((cs.drop off).take n))else none:=rfl
def aEO{k:Option Nat}{off:Nat}{x:Gz}:Az S s m fr (.field k off x) K=GL (Um off k (x.ev s)) (λd=>K d []) .mk:=by
 simp only[Az,Aw];unfold Um;cases x.ev s<;>cases k<;>simp only[AO,Co,Fh]
def Uk(sz:Nat):D->D->(K:D->GA->Prop)->Tag K->Prop
 | .slice _ _ xs,.int _ n,K,_=>Ao (0<=n) (GL xs[n.toNat]? (λd=>Ao (d.cells.length=sz) (K (.eptr d.cells) []) .mk) .mk) .mk
 | .row i l,.int _ n,K,_=>Ao (0<=n∧n<(l:Int)) (K (.ptr i (if sz=1 then n.toNat else n.toNat*sz)) []) .mk
 |_,_,_,_=>False
def gU{sz l:Nat}{i:Id}{k:IntKind}{n:Int}{g:Tag K}:Uk sz (.row i l) (.int k n) K g=Ao (0<=n∧n<(l:Int)) (K (.ptr i (if sz=1 then n.toNat else n.toNat*sz)) []) .mk:=rfl
def Uj{sz:Nat}{nl:Bool}{t:Id}{xs:List D}{k:IntKind}{n:Int}{g:Tag K}:Uk sz (.slice nl t xs) (.int k n) K g=Ao (0<=n) (GL xs[n.toNat]? (λd=>Ao (d.cells.length=sz) (K (.eptr d.cells) []) .mk) .mk) .mk:=rfl
def aEM{sz:Nat}{x i:Gz}:Az S s m fr (.iaddr sz x i) K=Uk sz (x.ev s) (i.ev s) K .mk:=by
 simp only[Az,Aw];unfold Uk;cases x.ev s<;>cases i.ev s<;>first|(simp only[AO];done)|(simp only[Fh,Ao];done)|skip
 rename_i nl t xs k n;rw[Ee];simp only[Ao];congr 1;cases xs[n.toNat]? with
 |none=>simp only[AO]
 |some d=>simp only[AZ,Fh,Ao]
def aAT:D->D->(K:D->GA->Prop)->Tag K->Prop
 | .str b,.int _ n,K,_=>Ao (0<=n) (GL b[n.toNat]? (λc=>K (.int .u8 (c.toNat:Int)) []) .mk) .mk
 |_,_,_,_=>False
def rC{b:List UInt8}{k:IntKind}{n:Int}{g:Tag K}:aAT (.str b) (.int k n) K g=Ao (0<=n) (GL b[n.toNat]? (λc=>K (.int .u8 (c.toNat:Int)) []) .mk) .mk:=rfl
def aMV{x i:Gz}:Az S s m fr (.idxs x i) K=aAT (x.ev s) (i.ev s) K .mk:=by
 simp only[Az,Aw];unfold aAT;cases x.ev s<;>cases i.ev s<;>try simp only[AO]
 rw[Ee,Co]
def gW(len sz:Nat):D->D->(K:D->GA->Prop)->Tag K->Prop
 | .ptr j o,.int _ n,K,_=>Ao (0<=n∧n<(len:Int)) (K (.ptr j (o+n.toNat*sz)) []) .mk
 |_,_,_,_=>False
def gV{len sz o:Nat}{j:Id}{k:IntKind}{n:Int}{g:Tag K}:gW len sz (.ptr j o) (.int k n) K g=Ao (0<=n∧n<(len:Int)) (K (.ptr j (o+n.toNat*sz)) []) .mk:=rfl
def aEN{len sz:Nat}{x i:Gz}:Az S s m fr (.iadda len sz x i) K=gW len sz (x.ev s) (i.ev s) K .mk:=by
 simp only[Az,Aw];unfold gW;cases x.ev s<;>cases i.ev s<;>try simp only[AO]
 rw[Fh,Ao]
def aAU(len sz:Nat):D->D->(K:D->GA->Prop)->Tag K->Prop
 | .agg cs,.int _ n,K,_=>Ao (0<=n∧n<(len:Int)∧n.toNat*sz+sz<=cs.length) (K (.agg ((cs.drop (n.toNat*sz)).take sz)) []) .mk
 |_,_,_,_=>False
def rD{len sz:Nat}{cs:List D}{k:IntKind}{n:Int}{g:Tag K}:aAU len sz (.agg cs) (.int k n) K g=Ao (0<=n∧n<(len:Int)∧n.toNat*sz+sz<=cs.length) (K (.agg ((cs.drop (n.toNat*sz)).take sz)) []) .mk:=rfl
def aMW{len sz:Nat}{x i:Gz}:Az S s m fr (.idxm len sz x i) K=aAU len sz (x.ev s) (i.ev s) K .mk:=by
 simp only[Az,Aw];unfold aAU;cases x.ev s<;>cases i.ev s<;>try simp only[AO]
 rw[Fh,Ao]
def aAV(len:Nat):D->D->(K:D->GA->Prop)->Tag K->Prop
 | .agg cs,.int _ n,K,_=>Ao (0<=n∧n<(len:Int)) (GL cs[n.toNat]? (λd=>K d []) .mk) .mk
 |_,_,_,_=>False
def rE{len:Nat}{cs:List D}{k:IntKind}{n:Int}{g:Tag K}:aAV len (.agg cs) (.int k n) K g=Ao (0<=n∧n<(len:Int)) (GL cs[n.toNat]? (λd=>K d []) .mk) .mk:=rfl
def aMX{len:Nat}{x i:Gz}:Az S s m fr (.idxa len x i) K=aAV len (x.ev s) (i.ev s) K .mk:=by
 simp only[Az,Aw];unfold aAV;cases x.ev s<;>cases i.ev s<;>try simp only[AO]
 rw[Ee,Co]
def aFY(p:Bool):D->D->Option D
 | .int k a,.int _ b=>some (.int k (if p=true then max a b else min a b))
 |_,_=>none
def aNQ{k r:IntKind}{a b:Int}:aFY true (.int k a) (.int r b)=some (.int k (max a b)):=rfl
def aNR{k r:IntKind}{a b:Int}:aFY false (.int k a) (.int r b)=some (.int k (min a b)):=rfl
def aQB{p:Bool}{x y:Gz}:Az S s m fr (.mxm p x y) K=GL (aFY p (x.ev s) (y.ev s)) (λd=>K d []) .mk:=by
 simp only[Az,Aw];unfold aFY;cases x.ev s<;>cases y.ev s<;>simp[AO,AZ]
def CK(b v:Nat):Option D->Option Nat
 |none=>some b
 |some (.int _ n)=>if 0<=n∧n<=v then some n.toNat else none
 |some _=>none
def Hq(s:Nat->D):Option Gz->Option D
 |none=>none
 |some a=>some (a.ev s)
def fL:Hq s none=none:=rfl
def fK{a:Gz}:Hq s (some a)=some (a.ev s):=rfl
def cJ{a b:Nat}:CK a b none=some a:=rfl
def jE{a b:Nat}{k:IntKind}{n:Int}:CK a b (some (.int k n))=if 0<=n∧n<=b then some n.toNat else none:=rfl
def cI{x:Option Gz}{a b:Nat}:Fc s x a b=CK a b (Hq s x):=by
 cases x with
 |none=>rfl
 |some x=>simp only[Fc,Hq,CK];cases x.ev s<;>rfl
def aCp:D->Option D->Option D->(K:D->GA->Prop)->Tag K->Prop
 | .str b,lo,hi,K,_=>GL (CK b.length b.length hi) (λh=>GL (CK 0 h lo) (λl=>K (.str ((b.drop l).take (h-l))) []) .mk) .mk
 |_,_,_,_,_=>False
def sR{b:List UInt8}{lo hi:Option D}{g:Tag K}:aCp (.str b) lo hi K g=GL (CK b.length b.length hi) (λh=>GL (CK 0 h lo) (λl=>K (.str ((b.drop l).take (h-l))) []) .mk) .mk:=rfl
def aMY{x:Gz}{lo hi:Option Gz}:Az S s m fr (.cuts x lo hi) K=aCp (x.ev s) (Hq s lo) (Hq s hi) K .mk:=by
 simp only[Az,Aw];unfold aCp;cases x.ev s<;>simp only[AO,cI];rename_i b;cases CK b.length b.length (Hq s hi)with
 |none=>simp only[AO]
 |some h=>
  simp only[AZ];cases CK 0 h (Hq s lo)with
  |none=>simp only[AO]
  |some l=>simp only[AZ]
def aCq(sz:Nat):D->Option D->Option D->(K:D->GA->Prop)->Tag K->Prop
 | .slice nl _ xs,lo,hi,K,_=>Ao (aF xs sz=sz) (GL (CK xs.length xs.length hi) (λh=>GL (CK 0 h lo) (λl=>K (.slice nl [] ((xs.drop l).take (h-l))) []) .mk) .mk) .mk
 |_,_,_,_,_=>False
def bX{sz:Nat}{nl:Bool}{t:Id}{xs:List D}{lo hi:Option D}{g:Tag K}:aCq sz (.slice nl t xs) lo hi K g=Ao (aF xs sz=sz) (GL (CK xs.length xs.length hi) (λh=>GL (CK 0 h lo) (λl=>K (.slice nl [] ((xs.drop l).take (h-l))) []) .mk) .mk) .mk:=rfl
def aMZ{sz:Nat}{x:Gz}{lo hi:Option Gz}:Az S s m fr (.cutl sz x lo hi) K=aCq sz (x.ev s) (Hq s lo) (Hq s hi) K .mk:=by
 simp only[Az,Aw];unfold aCq;cases x.ev s<;>simp only[AO,cI];rename_i nl t xs;rw[Ee];cases CK xs.length xs.length (Hq s hi)with
 |none=>simp[GL,Ao]
 |some h=>
  simp only;cases h1:CK 0 h (Hq s lo)with
  |none=>simp[GL,Ao,h1]
  |some l=>simp[GL,Ao,h1]
def aMS{t:TypeId}{x:Gz}:Az S s m fr (.mkif t x) K=Ao ((x.ev s).data=true∧(x.ev s).un.calm=true) (K (.iface t (x.ev s).un) []) .mk:=by
 simp only[Az,Aw];rw[Ee,AZ]
def aOU(i:Nat):D->Option D
 | .tup vs=>vs[i]?
 |_=>none
def aBd{i:Nat}{vs:List D}:aOU i (.tup vs)=vs[i]?:=rfl
def aQD{i:Nat}{x:Gz}:Az S s m fr (.ext i x) K=GL (aOU i (x.ev s)) (λd=>K d []) .mk:=by
 simp only[Az,Aw];unfold aOU;cases x.ev s<;>simp[AO,Co]
def aMT{f:FuncId}{caps:List Gz}:Az S s m fr (.mkfn f caps) K=K (.fn f (caps.map (·.ev s))) []:=by simp[Az,Aw,GL]
def aQC{b:Bool}{x:Gz}:Az S s m fr (.len b x) K=GL (gC b (x.ev s)) (λn=>K (.int .i64 (n:Int)) []) .mk:=XY
def aAi{b:List UInt8}:gC true (.str b)=some b.length:=rfl
def gB{nl:Bool}{t:Id}{xs:List D}:gC false (.slice nl t xs)=some xs.length:=rfl
def aAj{i:Id}{n:Nat}:gC false (.row i n)=some n:=rfl
def Iw(m:Gu)(e:Nat):D->Prop
 | .slice nl t _=>nl=true∨(m t 0=some (.tok (e+1))∧t≠[])
 |_=>False
def A6(e:Nat)(fr:Id):D->GA
 | .slice true _ _=>[(fr,0,[.tok (e+1)])]
 | .slice false t _=>[(t,0,[.tok 0]),(fr,0,[.tok (e+1)])]
 |_=>[]
def aPk(e sz bytes:Nat)(fr:Id):D->Option (List D)->(m:Gu)->(K:D->GA->Prop)->Tag (m,K)->Prop
 | .slice nl t xs,some ys,m,K,_=>N3 (nl=true∧ys=[]) (K (.slice true [] []) [])
   (Ao ((xs.length+ys.length)*(bytes+1)<=140737488355328∧aF ys sz=sz∧Iw m e (.slice nl t xs)) (K (.slice false fr (if nl=true then ys else xs++ys)) (A6 e fr (.slice nl t xs))) .mk) .mk
 |_,_,_,_,_=>False
def UO{sz:Nat}{nl:Bool}{t:Id}{ys:List D}:Iq sz (.slice nl t ys)=some ys:=rfl
def jJ{sz:Nat}{b:List UInt8}:Iq sz (.str b)=if sz=1 then some (Ax b)else none:=rfl
def jK{e sz bytes:Nat}{nl:Bool}{t:Id}{xs ys:List D}{g:Tag (m,K)}:aPk e sz bytes fr (.slice nl t xs) (some ys) m K g=N3 (nl=true∧ys=[]) (K (.slice true [] []) [])
   (Ao ((xs.length+ys.length)*(bytes+1)<=140737488355328∧aF ys sz=sz∧Iw m e (.slice nl t xs)) (K (.slice false fr (if nl=true then ys else xs++ys)) (A6 e fr (.slice nl t xs))) .mk) .mk:=rfl
def BM{nl:Bool}{xs ys:List D}(h:nl=true->xs=[]):(if nl=true then ys else xs++ys)=xs++ys:=by
 simp_all
def aQI{e sz bytes:Nat}{x y:Gz}:Az S s m fr (.app e sz bytes x y) K=aPk e sz bytes fr (x.ev s) (Iq sz (y.ev s)) m K .mk:=by
 simp only[Az,Aw];unfold aPk;cases x.ev s<;>cases Iq sz (y.ev s)<;>simp only[AO];rename_i nl t xs ys;by_cases u:nl=true∧ys=[]
 ·grind [AZ,N3]
 ·rw[if_neg u];have w:∀A B:Prop,N3 (nl=true∧ys=[]) A B .mk=B:=λA B=>by simp[N3,u]
  rw[w,Ee];cases nl with
  |true=>simp[GL,Ao,A6,Iw,and_assoc]
  |false=>
   simp only[QS,Iw,A6,false_or];cases hm:m t 0 with
   |none=>simp[GL,Ao]
   |some d=>
    cases d with
    |tok k=>
     by_cases g:k=e+1∧t≠[]
     ·grind [GL,Ao]
     ·grind [GL,Ao]
    |_=>simp[GL,Ao]
def zN(e sz bytes:Nat)(z:D)(fr:Id):D->D->(K:D->GA->Prop)->Tag K->Prop
 | .int _ n,.int _ c,K,_=>Ao (0<=n∧n<=c∧c*(bytes+1)<=140737488355328∧z.cells.length=sz) (if z.isRw=true then Ao (n=c) (K (.row fr n.toNat) [(fr,0,Q7 n.toNat z)]) .mk else K (.slice false fr (Q7 n.toNat z)) [(fr,0,[.tok (e+1)])]) .mk
 |_,_,_,_=>False
def qT{e sz bytes:Nat}{z:D}{k r:IntKind}{n c:Int}{g:Tag K}:zN e sz bytes z fr (.int k n) (.int r c) K g=Ao (0<=n∧n<=c∧c*(bytes+1)<=140737488355328∧z.cells.length=sz) (if z.isRw=true then Ao (n=c) (K (.row fr n.toNat) [(fr,0,Q7 n.toNat z)]) .mk else K (.slice false fr (Q7 n.toNat z)) [(fr,0,[.tok (e+1)])]) .mk:=rfl
def aGt:D.isRw .nilIface=true:=rfl
def aAL{k:IntKind}{n:Int}:D.isRw (.int k n)=false:=rfl
def aAK:D.isRw (.str [])=true:=rfl
def qZ{b:Bool}:D.isRw (.bool b)=false:=rfl
def gN{nl:Bool}{t:Id}{xs:List D}:D.isRw (.slice nl t xs)=false:=rfl
def aAM{xs:List D}:D.isRw (.agg xs)=false:=rfl
def aMR{e sz bytes:Nat}{z:D}{n c:Gz}:Az S s m fr (.mksl e sz bytes z n c) K=zN e sz bytes z fr (n.ev s) (c.ev s) K .mk:=by
 simp only[Az,Aw];unfold zN;cases n.ev s<;>cases c.ev s<;>first|(simp only[AO];done)|skip
 by_cases d:z.isRw=true
 ·simp_all [Ee,AZ,Ao]
 ·simp_all [Ee,AZ,Ao]
def PW(S:Gq):D->List D->(m:Gu)->Id->(K:D->GA->Prop)->Tag (m,K)->Prop
 | .fn f caps,ds,m,fr,K,_=>GL (S f) (λq=>GL (q.ex (ds++caps) m fr) (λx=>K x.1 x.2) .mk) .mk
 |_,_,_,_,_,_=>False
def aM1{f:Gz}{xs:List Gz}:Az S s m fr (.call f xs) K=PW S (f.ev s) (xs.map (·.ev s)) m fr K .mk:=by
 simp only[Az,Aw];unfold PW;cases f.ev s<;>simp only[AO];rename_i f caps;cases S f with
 |none=>simp only[AO]
 |some q=>simp only[AZ]
def AD{f:FuncId}{caps ds:List D}{q:G_}{g:Tag (m,K)}(h:S f=some q):PW S (.fn f caps) ds m fr K g=GL (q.ex (ds++caps) m fr) (λx=>K x.1 x.2) .mk:=by
 grind [PW,AZ]
def Ab{f:FuncId}{caps ds:List D}{F:List D->Option D}{g:Tag (m,K)}(h:S f=some (Ac F)):PW S (.fn f caps) ds m fr K g=Ao (((ds++caps).map D.un).all D.calm=true) (GL (F ((ds++caps).map D.un)) (λr=>K r []) .mk) .mk:=by
 rw[AD h];simp only[Ac,Ee,Ao];rw[Co]
def AC(S:Gq)(f:FuncId){q:G_}(h:S f=some q:=by exact rfl){caps ds:List D}{g:Tag (m,K)}:PW S (.fn f caps) ds m fr K g=GL (q.ex (ds++caps) m fr) (λx=>K x.1 x.2) .mk:=AD h
def Ae(S:Gq)(f:FuncId){F:List D->Option D}(h:S f=some (Ac F):=by exact rfl){caps ds:List D}{g:Tag (m,K)}:PW S (.fn f caps) ds m fr K g=Ao (((ds++caps).map D.un).all D.calm=true) (GL (F ((ds++caps).map D.un)) (λr=>K r []) .mk) .mk:=Ab h
end
def Af{S:Gq}{ns:Id}{c b:DC}{Q:Ex->St->Prop}{y:St}{t:Tag (S,ns,c,Q,y)}(h:c=b)(k:b.wp S ns (Wn S ns c Q) y):A5 S ns c Q y t:=vZ (h▸k)
section
variable{k:IntKind}{a b:Int}
def aQ5:AM .add (.int k a) (.int k b)=some (.int k (k.wrap (a+b))):=Xm
def aQP:AM .sub (.int k a) (.int k b)=some (.int k (k.wrap (a-b))):=Xm
def aQX:AM .mul (.int k a) (.int k b)=some (.int k (k.wrap (a*b))):=Xm
def aQT:AM .quo (.int k a) (.int k b)=if b≠0 then some (.int k (k.wrap (a.tdiv b)))else none:=by by_cases h:b=0<;>simp[AM,h]
def aQS:AM .rem (.int k a) (.int k b)=if b≠0 then some (.int k (a.tmod b))else none:=by by_cases h:b=0<;>simp[AM,h]
def aQ4:AM .and (.int k a) (.int k b)=some (.int k (bits .and k a b)):=Xm
def aVz:AM .or (.int k a) (.int k b)=some (.int k (bits .or k a b)):=Xm
def aQO:AM .xor (.int k a) (.int k b)=some (.int k (bits .xor k a b)):=Xm
def aQ2:AM .eql (.int k a) (.int k b)=some (.bool (decide (a=b))):=by simp[AM];rfl
def aQV:AM .neq (.int k a) (.int k b)=some (.bool (decide (¬a=b))):=by simp[AM];rfl
def aQY:AM .lss (.int k a) (.int k b)=some (.bool (decide (a<b))):=Xm
def aQZ:AM .leq (.int k a) (.int k b)=some (.bool (decide (a<=b))):=Xm
def aQ0:AM .gtr (.int k a) (.int k b)=some (.bool (decide (b<a))):=Xm
def aQ1:AM .geq (.int k a) (.int k b)=some (.bool (decide (b<=a))):=Xm
def aQR{r:IntKind}:AM .shl (.int k a) (.int r b)=if 0<=b then some (.int k (k.wrap (a*2 ^ min b.toNat k.bits)))else none:=Xm
def aQQ{r:IntKind}:AM .shr (.int k a) (.int r b)=if 0<=b then some (.int k (a.fdiv (2 ^ min b.toNat k.bits)))else none:=Xm
variable{x y:List UInt8}
def aQ3:AM .add (.str x) (.str y)=if x.length+y.length<=9223372036854775807 then some (.str (x++y))else none:=Xm
def aM9:AM .eql (.str x) (.str y)=some (.bool (decide (x=y))):=by
 grind [AM]
def aM8:AM .neq (.str x) (.str y)=some (.bool (decide (¬x=y))):=by
 grind [AM]
def aQU{p:Bool}:rX .not (.bool p)=some (.bool (!p)):=rfl
def aQW:rX .neg (.int k a)=some (.int k (k.wrap (0-a))):=rfl
end
def aFV{p:Prop}[Decidable p]:(!decide p)=decide (¬p):=by by_cases h:p<;>simp[h]
def aBr{p:Prop}[Decidable p]:(decide p=true)=p:=U
def sN{p:Prop}[Decidable p]:(decide p=false)=¬p:=U
def aWo:(false=true)=False:=U
def aVB:(true=false)=False:=U
def aGv{p A B:Prop}{t:Tag (A,B)}:N3 (¬p) A B t=N3 p B A .mk:=by
 grind [N3]
def qC{o:DOper}{l:List DOper}:Dg (o::l) 0=o.dst:=rfl
def qD{o:DOper}{l:List DOper}{j:Nat}:Dg (o::l) (j+1)=Dg l j:=by simp[Dg]
def aG2{m:Gu}:GA.app m []=m:=rfl
def aCK{m:Gu}{i:Id}{o:Nat}{ds:List D}{u:GA}:GA.app m ((i,o,ds)::u)=GA.app (m.put i o ds) u:=rfl
def Vt:Bp []=some []:=rfl
def Tg{n:Int}{r:List D}:Bp (.int .u8 n::r)=(Bp r).map (UInt8.ofNat n.toNat::·):=rfl
def TR{α β:Type}{f:α->β}{x:α}:(some x).map f=some (f x):=rfl
def W9{rs:List RV}{R:D->Gu->Prop}{y:St}:DM rs R .normal y=GL (CH rs y.s y.m) (λd=>R d y.m) .mk:=by
 simp[DM,GL]
def aBg{rs:List RV}{R:D->Gu->Prop}{y:St}:DM rs R .ret y=GL (CH rs y.s y.m) (λd=>R d y.m) .mk:=by
 simp[DM,GL]
def rZ{rs:List RV}{R:D->Gu->Prop}{y:St}{i:Nat}:DM rs R (.exit i) y=False:=by
 simp[DM]
def aFA{s:Nat->D}{m:Gu}{t:Nat}:CH [.t t] s m=some (s t):=rfl
def aFz{s:Nat->D}{m:Gu}{t x:Nat}:CH [.t t,.t x] s m=some (.tup [s t,s x]):=rfl
def qM{s:Nat->D}{m:Gu}{t x a:Nat}:CH [.t t,.t x,.t a] s m=some (.tup [s t,s x,s a]):=rfl
def yB{s:Nat->D}{m:Gu}:CH [] s m=some (.tup []):=rfl
def iD{d:D}{ds:List D}:Bv (d::ds) 0=d:=rfl
def iE{d:D}{ds:List D}{t:Nat}:Bv (d::ds) (t+1)=Bv ds t:=rfl
def rY{t:Nat}:Bv [] t= .junk:=rfl
def VO(S:Gq)(ns:Id)(c:Nat)(ops l:List DOper)(k:Nat)(s:Nat->D)(p:Option Nat)(m:Gu)(K:Nat->(Nat->D)->Gu->Prop)(d:D)(u:GA):Prop:=Fz S ns c ops l k (BG s p d) (GA.app m u) K
def Ni(S:Gq)(ns:Id)(c:Nat)(ops l:List DOper)(k:Nat)(s:Nat->D)(p:Option Nat)(m:Gu)(op:DOp)(K:Nat->(Nat->D)->Gu->List LA->Prop)(d:D)(u:GA):Prop:=
 B2 S ns c ops l k (BG s p d) (GA.app m u) λr n m' f=>K r n m' ((GK S s m op,Ay u)::f)
section
variable{S:Gq}{ns:Id}{c k:Nat}{ops l:List DOper}{s:Nat->D}{m:Gu}{dst:Option Nat}{op:DOp}{af:List Nat}{j:Nat}{b:Bool}{d:D}{i:Id}{o e:Nat}{fr:Id}{ds:List D}{u:GA}
section
variable{K:Nat->(Nat->D)->Gu->Prop}
def aFt:Fz S ns c ops [] k s m K=K k s m:=rfl
def aFs:Fz S ns c ops (⟨dst,op,af,none⟩::l) k s m K=Az S s m ((c+k)::ns) op (VO S ns c ops l (k+1) s dst m K):=rfl
def aNv:Fz S ns c ops (⟨dst,op,af,some (j,b)⟩::l) k s m K=Lo (Ge s (Dg ops j)) b
   (Az S s m ((c+k)::ns) op (VO S ns c ops l (k+1) s dst m K)) (Fz S ns c ops l (k+1) (BG s dst (.tup [])) m K) .mk:=rfl
def xS:VO S ns c ops l k s dst m K d []=Fz S ns c ops l k (BG s dst d) m K:=rfl
def qJ:VO S ns c ops l k s dst m K d ((i,o,ds)::u)=VO S ns c ops l k s dst (m.put i o ds) K d u:=rfl
def MR{a:D}:VO S ns c ops l k s dst m K d (A6 e fr a)=Fz S ns c ops l k (BG s dst d) (GA.app m (A6 e fr a)) K:=rfl
end
variable{K:Nat->(Nat->D)->Gu->List LA->Prop}
def sC:B2 S ns c ops [] k s m K=K k s m []:=rfl
def sB:B2 S ns c ops (⟨dst,op,af,none⟩::l) k s m K=Az S s m ((c+k)::ns) op (Ni S ns c ops l (k+1) s dst m op K):=rfl
def aBj:B2 S ns c ops (⟨dst,op,af,some (j,b)⟩::l) k s m K=Lo (Ge s (Dg ops j)) b
   (Az S s m ((c+k)::ns) op (Ni S ns c ops l (k+1) s dst m op K))
   (B2 S ns c ops l (k+1) (BG s dst (.tup [])) m λr n m' f=>K r n m' ((GK S s m op,[])::f)) .mk:=rfl
def iG:Ni S ns c ops l k s dst m op K d []=B2 S ns c ops l k (BG s dst d) m λr n m' f=>K r n m' ((GK S s m op,[])::f):=rfl
def bO:Ni S ns c ops l k s dst m op K d ((i,o,ds)::u)=B2 S ns c ops l k (BG s dst d) (GA.app (m.put i o ds) u) λr n m' f=>K r n m' ((GK S s m op,Ay ((i,o,ds)::u))::f):=rfl
def bM{a:D}:Ni S ns c ops l k s dst m op K d (A6 e fr a)=B2 S ns c ops l k (BG s dst d) (GA.app m (A6 e fr a)) λr n m' f=>K r n m' ((GK S s m op,Ay (A6 e fr a))::f):=rfl
end
def aCn{k:IntKind}{n:Int}:D.data (.int k n)=true:=rfl
def aCl{b:List UInt8}:D.data (.str b)=true:=rfl
def sQ{b:Bool}:D.data (.bool b)=true:=rfl
def iT{nl:Bool}{t:Id}{xs:List D}:D.data (.slice nl t xs)=true:=rfl
def aCo{xs:List D}:D.data (.agg xs)=true:=rfl
def aCm{i:Id}{o:Nat}:D.data (.ptr i o)=true:=rfl
def bW:D.data .nilptr=true:=rfl
def tD{k:IntKind}{n:Int}:D.cells (.int k n)=[.int k n]:=rfl
def sX{b:List UInt8}:D.cells (.str b)=[.str b]:=rfl
def iW{b:Bool}:D.cells (.bool b)=[.bool b]:=rfl
def E9{nl:Bool}{t:Id}{xs:List D}:D.cells (.slice nl t xs)=[.slice nl t xs]:=rfl
def tF{xs:List D}:D.cells (.agg xs)=xs:=rfl
def sY{i:Id}{o:Nat}:D.cells (.ptr i o)=[.ptr i o]:=rfl
def aNd{k:IntKind}{n:Int}:D.un (.int k n)= .int k n:=rfl
def aNc{b:List UInt8}:D.un (.str b)= .str b:=rfl
def aE5{b:Bool}:D.un (.bool b)= .bool b:=rfl
def wM{nl:Bool}{t:Id}{xs:List D}:D.un (.slice nl t xs)= .slice nl [] xs:=rfl
def aNe{xs:List D}:D.un (.agg xs)= .agg (xs.map D.un1):=rfl
def aQ6{f:FuncId}{cs:List D}:D.un (.fn f cs)= .fn f cs:=rfl
def aFb{k:IntKind}{n:Int}:D.un1 (.int k n)= .int k n:=rfl
def aFa{b:List UInt8}:D.un1 (.str b)= .str b:=rfl
def wO{b:Bool}:D.un1 (.bool b)= .bool b:=rfl
def pQ{nl:Bool}{t:Id}{xs:List D}:D.un1 (.slice nl t xs)= .slice nl [] xs:=rfl
def aE8{k:IntKind}{n:Int}:D.unR (.int k n)= .int k n:=rfl
def aE7{b:List UInt8}:D.unR (.str b)= .str b:=rfl
def wN{b:Bool}:D.unR (.bool b)= .bool b:=rfl
def pP{nl:Bool}{t:Id}{xs:List D}:D.unR (.slice nl t xs)= .slice nl [] xs:=rfl
def aE9{xs:List D}:D.unR (.agg xs)= .agg (xs.map D.un1):=rfl
def aE6{xs:List D}:D.unR (.tup xs)= .tup (xs.map D.un):=rfl
def aCB{k:IntKind}{n:Int}:D.calm (.int k n)=true:=rfl
def aCz{b:List UInt8}:D.calm (.str b)=true:=rfl
def tK{b:Bool}:D.calm (.bool b)=true:=rfl
def iY{nl:Bool}{xs:List D}:D.calm (.slice nl [] xs)=true:=rfl
def tN{xs:List D}:D.calm (.agg xs)=xs.all D.calm1:=rfl
def aGX{f:FuncId}:D.calm (.fn f [])=true:=rfl
def tZ{k:IntKind}{n:Int}:D.calm1 (.int k n)=true:=rfl
def tY{b:List UInt8}:D.calm1 (.str b)=true:=rfl
def jB{b:Bool}:D.calm1 (.bool b)=true:=rfl
def cG{nl:Bool}{xs:List D}:D.calm1 (.slice nl [] xs)=true:=rfl
def tV{k:IntKind}{n:Int}:D.calmR (.int k n)=true:=rfl
def tU{b:List UInt8}:D.calmR (.str b)=true:=rfl
def jA{b:Bool}:D.calmR (.bool b)=true:=rfl
def cF{nl:Bool}{xs:List D}:D.calmR (.slice nl [] xs)=true:=rfl
def tW{xs:List D}:D.calmR (.agg xs)=xs.all D.calm1:=rfl
def tT{xs:List D}:D.calmR (.tup xs)=xs.all D.calm:=rfl
def aN2{f:D->D}{x:D}{xs:List D}:(x::xs).map f=f x::xs.map f:=rfl
def aGn{f:D->D}:ZP f []=[]:=rfl
def aN1{f:Gz->D}{x:Gz}{xs:List Gz}:(x::xs).map f=f x::xs.map f:=rfl
def aGm{f:Gz->D}:ZP f []=[]:=rfl
def aN0{f:Nat×Nat×Gz->Nat×Nat×D}{x:Nat×Nat×Gz}{xs:List (Nat×Nat×Gz)}:(x::xs).map f=f x::xs.map f:=rfl
def aGl{f:Nat×Nat×Gz->Nat×Nat×D}:ZP f []=[]:=rfl
def aSP{f:D->Bool}{x:D}{xs:List D}:(x::xs).all f=(f x&&xs.all f):=rfl
def aN9{f:D->Bool}:List.all [] f=true:=rfl
def aSN{x:D}{xs:List D}:(x::xs).length=xs.length+1:=rfl
def aN3:([]:List D).length=0:=rfl
def aSO{x:D}{xs ys:List D}:(x::xs)++ys=x::(xs++ys):=rfl
def aN8{ys:List D}:[]++ys=ys:=rfl
def aN7{ys:List D}:ys++[]=ys:=U
def aN6{x:D}{xs:List D}:(x::xs)[0]?=some x:=rfl
def aN5{x:D}{xs:List D}{n:Nat}:(x::xs)[n+1]?=xs[n]?:=rfl
def aN4{x:D}{xs:List D}:(x::xs).head?=some x:=rfl
def aSJ{n:Nat}:(n==n)=true:=U
def aNF:(True∧True)=True:=U
def aRl{p:Prop}:(True∧p)=p:=U
def aNG{p:Prop}:(p∧True)=p:=U
def aVH:(¬False)=True:=U
def aVG:(¬True)=False:=U
def aWs:(true=true)=True:=U
def aWt:(false=false)=True:=U
def aWp:decide True=true:=U
def aWq:decide False=false:=U
def C2:=Qa @VG <| Qa @xF <| Qa @qG <| Qa @RK <| Qa @jF <| Qa @D5 <| Qa @Ud <| Qa @qW <| Qa @fZ <| Qa @vY <| Qa @aEU <| Qa @wA <| Qa @aES <| Qa @Vk <| Qa @eI <| Qa @pJ <| Qa @Vj <| Qa @eH <| Qa @qE <| Qa @qF <| Qa @bJ <| Qa @bK <| Qa @aVq <| Qa @aMP <| Qa @aER <| Qa @aQE <| Qa @aEQ <| Qa @vX <| Qa @aMU <| Qa @aEK <| Qa @aMQ <| Qa @aEJ <| Qa @vW <| Qa @aQF <| Qa @aVp <| Qa @aQG <| Qa @aQy <| Qa @aEL <| Qa @aM0 <| Qa @aQz <| Qa @aQA <| Qa @aQH <| Qa @aEP <| Qa @aEO <| Qa @aEM <| Qa @aMV <| Qa @aMX <| Qa @aMW <| Qa @aQB <| Qa @aEN <| Qa @aMY <| Qa @aMZ <| Qa @aMS <| Qa @aQD <| Qa @aMT <| Qa @aQC <| Qa @aQI <| Qa @aMR <| Qa @aM1 <| Qa @W9 <| Qa @aBg <| Qa @rZ <| Qa @aFA <| Qa @aFz <| Qa @qM <| Qa @yB <| Qa @aFt <| Qa @aFs <| Qa @aNv <| Qa @xS <| Qa @qJ <| Qa @MR <| Qa @iG <| Qa @bO <| Qa @bM <| Qa @sC <| Qa @sB <| Qa @aBj <| Qa @qC @qD
def Gy:=Qa @S8 <| Qa @aAS <| Qa @rB <| Qa @AZ <| Qa @AO <| Qa @Ee <| Qa @Co <| Qa @Ic <| Qa @gZ <| Qa @Cx <| Qa @Lx <| Qa @fH <| Qa @qX <| Qa @fE <| Qa @qR <| Qa @zJ <| Qa @gA <| Qa @Pr <| Qa @NL <| Qa @eT <| Qa @Wa <| Qa @T7 <| Qa @fP <| Qa @aPj <| Qa @aPi <| Qa @O2 <| Qa @sS <| Qa @xG <| Qa @xH <| Qa @jI <| Qa @iB <| Qa @W7 <| Qa @W5 <| Qa @iA <| Qa @Uj <| Qa @rC <| Qa @rE <| Qa @rD <| Qa @aNQ <| Qa @aNR <| Qa @gV <| Qa @sR <| Qa @bX <| Qa @fL <| Qa @fK <| Qa @cJ <| Qa @jE <| Qa @aBd <| Qa @aAi <| Qa @gB <| Qa @aAj <| Qa @jK <| Qa @UO <| Qa @jJ <| Qa @qT <| Qa @aGt <| Qa @aAL <| Qa @aAK <| Qa @qZ <| Qa @gN <| Qa @aAM <| Qa @gU <| Qa @aQ5 <| Qa @aQP <| Qa @aQX <| Qa @aQT <| Qa @aQS <| Qa @aQ4 <| Qa @aVz <| Qa @aQO <| Qa @aQ2 <| Qa @aQV <| Qa @aQY <| Qa @aQZ <| Qa @aQ0 <| Qa @aQ1 <| Qa @aQR <| Qa @aQQ <| Qa @aQ3 <| Qa @aM9 <| Qa @aM8 <| Qa @aQU <| Qa @aQW <| Qa @aFV <| Qa @aBr <| Qa @sN <| Qa @aWo <| Qa @aVB <| Qa @aGv <| Qa @aG2 <| Qa @aCK <| Qa @Vt <| Qa @Tg <| Qa @TR <| Qa @iD <| Qa @iE @rY
def He:=Qa @aCn <| Qa @aCl <| Qa @sQ <| Qa @iT <| Qa @aCo <| Qa @aCm <| Qa @bW <| Qa @tD <| Qa @sX <| Qa @iW <| Qa @E9 <| Qa @tF <| Qa @sY <| Qa @aNd <| Qa @aNc <| Qa @aE5 <| Qa @wM <| Qa @aNe <| Qa @aQ6 <| Qa @aFb <| Qa @aFa <| Qa @wO <| Qa @pQ <| Qa @aE8 <| Qa @aE7 <| Qa @wN <| Qa @pP <| Qa @aE9 <| Qa @aE6 <| Qa @aCB <| Qa @aCz <| Qa @tK <| Qa @iY <| Qa @tN <| Qa @aGX <| Qa @tZ <| Qa @tY <| Qa @jB <| Qa @cG <| Qa @tV <| Qa @tU <| Qa @jA <| Qa @cF <| Qa @tW @tT
def GI:=Qa @aN2 <| Qa @aGn <| Qa @aN1 <| Qa @aGm <| Qa @aN0 <| Qa @aGl <| Qa @aSP <| Qa @aN9 <| Qa @aSN <| Qa @aN3 <| Qa @aSO <| Qa @aN8 <| Qa @aN7 <| Qa @aN6 <| Qa @aN5 <| Qa @aN4 <| Qa @aSJ <| Qa @aNF <| Qa @aRl <| Qa @aNG <| Qa @aVH <| Qa @aVG <| Qa @aWs <| Qa @aWt <| Qa @aWp <| Qa @aWq <| Qa @ZG <| Qa @Bool.and_true <| Qa @ZH @ZD
def Gv:(type_of% @Qi.{0,0})∧(type_of% @QO.{0,0})∧(type_of% @Gy)∧(type_of% @He)∧(type_of% @GI):=
 ⟨@Qi,@QO,@Gy,@He,@GI⟩
def GJ:(type_of% @QM.{0})∧(type_of% @Qg.{0})∧(type_of% @Qh.{0})∧(type_of% @Qk.{0})∧(type_of% @Qw)∧(type_of% @Qm)∧(type_of% @Qx)∧(type_of% @and_self)∧(type_of% @Gy)∧(type_of% @He)∧(type_of% @GI):=
 ⟨@QM,@Qg,@Qh,@Qk,@Qw,@Qm,@Qx,@and_self,@Gy,@He,@GI⟩
def Gt:(type_of% @Gy)∧(type_of% @He)∧(type_of% @GI):=
 ⟨@Gy,@He,@GI⟩
def Aj {P:Program} {f:FuncId} {N:Nat} {g:DC} {rs:List RV} {n:Func} {v:Code} (u:P.funcs[f]?=some n) (z:n.body=some v:=by rfl) (i:(n.name== "runtime.NumGoroutine")=false:=by kernel_rfl) (o:n.ntmps=N:=by rfl) (m:B9 P N v=some g:=by kernel_rfl) (e:I2 P n.results.toList=some rs:=by kernel_rfl):Fn P f N g rs:=⟨n,v,u,z,i,o,m,e⟩
def startG(G:Nat->Nat):Gh:={G:=G,G0:=G,dl:=λ_=>none,tb:=λ_=>none}
def MN(P:Program)(w:World){G:Nat->Nat}(r:∀b,w.heap.size<=b->G b=0):GD P w.heap.size w (λ_ _=>none) w (startG G):=
 ⟨Below.refl _ _,QA _,r,λ_ _=>rfl,λi b h=>by simp[startG]at h,λi v b h=>by simp[startG]at h,λi o d h=>Xd,λi e h=>Xd,λi v e t b x k h=>Xd,λi s p h=>Xd,λi v s p n u b x k h=>Xd⟩
def aNu{P:Program}{f:FuncId}{F:List D->Option D}(h:(Ac F).ok P f){w:World}{G:Nat->Nat}(o:∀b,w.heap.size<=b->G b=0){ds:List D}{vs:List Value}{d:D}(hl:vs.length=ds.length)
  (u:∀(j:Nat) d v,ds[j]?=some d->vs[j]?=some v->Rep w (startG G) d v) (m:ds.map D.un=ds) (y:ds.all D.calm=true) (q:F ds=some d):
  Calls P f vs.toArray w λe s=>∃v a,e= .returned v∧Rep s a d v∧Below w.heap.size w s:=by
 have z:(Ac F).ex ds (λ_ _=>none) []=some (d,[]):=by
  grind [Ac]
 refine(h.run (MN P w o) (λi _=>⟨λ_=>rfl,rfl,rfl⟩) hl u z).mono ?_;rintro e s ⟨v,a,rfl,g⟩;exact⟨v,a,rfl,g.rep,g.inv.below⟩
def xP{P:Program}{f:FuncId}{F:List D->Option D}(h:(Ac F).ok P f){w:World}{G:Nat->Nat}(r:∀b,w.heap.size<=b->G b=0){ds:List D}{vs:List Value}(hl:vs.length=ds.length)
  (u:∀(j:Nat) d v,ds[j]?=some d->vs[j]?=some v->Rep w (startG G) d v) (m:ds.map D.un=ds) (y:ds.all D.calm=true) (z:F ds=some (.bool true)):
  Calls P f vs.toArray w λe s=>e= .returned (.bool true)∧Below w.heap.size w s:=by
 refine(aNu h r hl u m y z).mono ?_;rintro e s ⟨v,a,rfl,i,o⟩;rw[i.bool_inv];exact⟨rfl,o⟩
def AH(f:List LA)(ps:List (Nat×Nat)):Bool:=ps.all λp=>(f.getD p.1 ([],[])).2.all λl=>!((f.getD p.2 ([],[])).1.contains l)&&!((f.getD p.2 ([],[])).2.contains l)
def Al{f:List LA}{ps:List (Nat×Nat)}(h:AH f ps=true):Ls f ps:=by
 intro p y l hl;have u:=Qt.1 h p y;have z:=Qt.1 u l hl;simpa using z
def AS{f:List LA}{ps:List (Nat×Nat)}{K:Prop}{t:Tag K}(k:K)(h:AH f ps=true:=by first|rfl|simp[AH,Ay,GK,Ai,Ac]):Ao (Ls f ps) K t:=⟨Al h,k⟩
def DC.run(S:Gq)(ns:Id):Nat->DC->St->Option (Ex×St)
 |0,_,_=>none
 |_+1,.skip,st=>some (.normal,st)
 |_+1,.ret,st=>some (.ret,st)
 |_+1,.exit i,st=>some (.exit i,st)
 |_+1,.row ops,st=>match D4 S ns st.c ops ops 0 st.s st.m with
  |some (s,m)=>some (.normal,⟨s,m,st.c+ops.length⟩)
  |none=>none
 |_+1,.drawn ops ps,st=>match B1 S ns st.c ops ops 0 st.s st.m with
  |some (s,m,f)=>if AH f ps=true then some (.normal,⟨s,m,st.c+ops.length⟩)else none
  |none=>none
 |n+1,.seq a b,st=>match DC.run S ns n a st with
  |some (.normal,st1)=>DC.run S ns n b st1
  |r=>r
 |n+1,.cond c a b,st=>match c.ev st.s with
  | .bool true=>DC.run S ns n a st
  | .bool false=>DC.run S ns n b st
  |_=>none
 |n+1,.block i c,st=>match DC.run S ns n c st with
  |some (.exit j,st1)=>if j=i then some (.normal,st1)else some (.exit j,st1)
  |r=>r
 |n+1,.loop c,st=>match DC.run S ns n c st with
  |some (.normal,st1)=>DC.run S ns n (.loop c) st1
  |r=>r
def aNt{S:Gq}{ns:Id}:∀(n:Nat)(v:DC)(y:St)(e:Ex)(x:St),DC.run S ns n v y=some (e,x)->Ev S ns v y e x:=by
 intro n;induction n with
 |zero=>intro v y e x h;simp[DC.run]at h
 |succ n ih=>
  intro v y e x h;cases v with
  |skip=>simp only[DC.run,Qb,Qs]at h;exact⟨h.1.symm,h.2.symm⟩
  |ret=>simp only[DC.run,Qb,Qs]at h;exact⟨h.1.symm,h.2.symm⟩
  |exit i=>simp only[DC.run,Qb,Qs]at h;exact⟨h.1.symm,h.2.symm⟩
  |row ops=>
   simp only[DC.run]at h;split at h
   ·rename_i s m r;simp only[Qb,Qs]at h;obtain⟨rfl,rfl⟩:=h;exact⟨rfl,r,rfl⟩
   ·cases h
  |drawn ops ps=>
   simp only[DC.run]at h;split at h
   ·rename_i s m f r;split at h
    ·rename_i hf;simp only[Qb,Qs]at h;obtain⟨rfl,rfl⟩:=h;exact⟨rfl,⟨f,r,Al hf⟩,rfl⟩
    ·cases h
   ·cases h
  |seq a b=>
   simp only[DC.run]at h;split at h
   ·rename_i g u;exact⟨.normal,g,ih _ _ _ _ u,.inl ⟨rfl,ih _ _ _ _ h⟩⟩
   ·rename_i w;refine⟨e,x,ih _ _ _ _ h,.inr ⟨λr=>?_,rfl,rfl⟩⟩;subst r;exact w x h
  |cond c a b=>
   simp only[DC.run]at h;split at h
   ·rename_i p;exact .inl ⟨p,ih _ _ _ _ h⟩
   ·rename_i p;exact .inr ⟨p,ih _ _ _ _ h⟩
   ·cases h
  |block i c=>
   simp only[DC.run]at h;split at h
   ·rename_i j g u;split at h
    ·rename_i q;simp only[Qb,Qs]at h;obtain⟨rfl,rfl⟩:=h;exact⟨.exit j,ih _ _ _ _ u,.inl ⟨by rw[q],rfl⟩⟩
    ·rename_i q;simp only[Qb,Qs]at h;obtain⟨rfl,rfl⟩:=h;exact⟨.exit j,ih _ _ _ _ u,.inr ⟨by simp[q],rfl⟩⟩
   ·rename_i w;refine⟨e,ih _ _ _ _ h,.inr ⟨λr=>?_,rfl⟩⟩;subst r;exact w i x h
  |loop c=>
   simp only[DC.run]at h;split at h
   ·rename_i g u;obtain⟨k,o⟩:=ih _ _ _ _ h;exact⟨k+1,.more k _ _ _ _ (ih _ _ _ _ u) o⟩
   ·rename_i w;refine⟨0,.stop _ _ _ (ih _ _ _ _ h) (λr=>?_)⟩;subst r;exact w x h
def Nf(S:Gq)(N:Nat)(g:DC)(rs:List RV)(fuel:Nat)(ds:List D):Option D:=
 if ds.length<=N then match DC.run S [] fuel g ⟨Bv ds,λ_ _=>none,0⟩with
  |some (.exit _,_)=>none
  |some (_,st)=>match CH rs st.s st.m with
   |some d=>if d.unR.calmR=true then some d.unR else none
   |none=>none
  |none=>none
 else none
def Nd{P:Program}{S:Gq}{f:FuncId}{N:Nat}{g:DC}{rs:List RV}(s:Gq.ok P S)(b:Fn P f N g rs)(fuel:Nat):(Ac (Nf S N g rs fuel)).ok P f:=by
 refine AK s b (λds r h=>?_) (λds r h=>?_)
 ·grind [Nf]
 ·unfold Nf at h;split at h
  ·split at h
   ·cases h
   ·rename_i c y j n;split at h
    ·rename_i d p;split at h
     ·rename_i k;simp only[Qb]at h;subst h;refine⟨c,y,aNt _ _ _ _ _ n,?_,d,p,rfl,k⟩;cases c with
      |normal=>exact .inl rfl
      |ret=>exact .inr rfl
      |exit i=>exact absurd rfl (j i)
     ·cases h
    ·cases h
   ·cases h
  ·cases h
end Go.Vd
namespace Go.Vd
open Go.Proofs Go.RowKit
inductive Tz where
 |bo|st|pt|fu|nf|mp|un
 |im (k:IntKind)
 |sl (e sz by':Nat)
 |gr (zs:List D) (fs:List (Nat×Nat))
 |ar (zs:List D) (len e:Nat)
def zT:Nat->Tz
 |3=> .im .i64
 |4=> .bo
 |5=> .im .u8
 |9=> .st
 |21=> .im .i32
 |22=> .im .u16
 |23=> .sl 9 1 16
 |26=> .sl 68 3 32
 |28=> .gr [(.slice true [] [])] [(0,26)]
 |29=> .sl 107 3 56
 |31=> .gr [(.slice true [] [])] [(0,29)]
 |33=> .gr [(.bool false),(.int .i64 0),(.str []),(.slice true [] []),(.slice true [] [])] [(0,4),(1,3),(2,9),(3,28),(4,31)]
 |34=> .pt
 |36=> .gr [.nilptr] [(0,34)]
 |38=> .gr [(.bool false),(.int .i64 0),(.str []),(.slice true [] []),(.slice true [] []),.nilptr,(.int .i64 0)] [(0,33),(5,36),(6,3)]
 |46=> .sl 3 1 8
 |47=> .sl 174 2 24
 |49=> .gr [(.int .u8 0),(.str []),(.str []),(.str []),(.int .i64 0),(.int .i64 0),(.bool false),(.slice true [] []),(.str []),(.slice true [] []),(.str [])] [(0,5),(1,9),(2,9),(3,9),(4,3),(5,3),(6,4),(7,46),(8,9),(9,47),(10,9)]
 |50=> .im .i64
 |58=> .fu
 |62=> .gr [(.int .u8 0),(.str []),(.int .i64 0)] [(0,5),(1,9),(2,3)]
 |66=> .gr [(.int .i64 0),(.bool false)] [(0,3),(1,4)]
 |68=> .gr [(.str []),(.int .i64 0),(.bool false)] [(0,9),(1,66)]
 |71=> .sl 80 3 16
 |73=> .gr [(.int .i64 0),(.bool false),(.int .i64 0),(.slice true [] [])] [(0,3),(1,4),(2,3),(3,71)]
 |80=> .gr [(.int .i64 0),(.bool false),(.bool false)] [(0,3),(1,4),(2,4)]
 |85=> .gr [(.int .u8 0),(.int .i64 0),(.int .i64 0),(.str []),(.slice true [] []),(.int .i64 0),(.bool false),(.int .i64 0),(.slice true [] []),(.bool false)] [(0,5),(1,50),(2,3),(3,9),(4,23),(5,73),(9,4)]
 |98=> .sl 167 3 40
 |100=> .gr [(.str []),(.bool false),(.str []),(.slice true [] []),(.bool false),(.int .i64 0),(.str []),(.slice true [] []),(.slice true [] [])] [(0,9),(1,4),(2,9),(3,98),(4,33)]
 |107=> .gr [(.str []),(.str []),(.slice true [] [])] [(0,9),(1,9),(2,47)]
 |108=> .sl 5 1 1
 |109=> .im .u64
 |113=> .gr [(.str []),(.str [])] [(0,9),(1,9)]
 |124=> .pt
 |126=> .gr [(.str []),(.int .i64 0),(.int .i64 0)] [(0,9),(1,3),(2,50)]
 |133=> .fu
 |136=> .gr [(.str []),(.str []),.nilptr,.nilptr,(.int .i64 0),(.int .i64 0),(.int .i64 0)] [(0,9),(1,9),(2,34),(3,34),(4,3),(5,3),(6,3)]
 |150=> .fu
 |160=> .sl 4 1 1
 |161=> .sl 23 1 24
 |163=> .gr [(.slice true [] []),(.slice true [] []),(.slice true [] []),(.slice true [] []),(.slice true [] [])] [(0,23),(1,23),(2,160),(3,23),(4,161)]
 |167=> .gr [(.int .u8 0),(.str []),(.str [])] [(0,5),(1,9),(2,9)]
 |170=> .fu
 |174=> .gr [(.str []),(.int .u8 0)] [(0,9),(1,5)]
 |176=> .ar [(.str []),(.str []),(.str []),(.str []),(.str []),(.str []),(.str []),(.str []),(.str []),(.str []),(.str []),(.str []),(.str []),(.str []),(.str []),(.str []),(.str []),(.str []),(.str []),(.str []),(.str []),(.str []),(.str []),(.str []),(.str []),(.str []),(.str []),(.str []),(.str []),(.str []),(.str []),(.str []),(.str []),(.str []),(.str []),(.str []),(.str []),(.str [])] 19 113
 |184=> .fu
 |185=> .im .u64
 |189=> .gr [] []
 |194=> .pt
 |196=> .gr [.nilptr,(.slice true [] [])] [(0,194),(1,108)]
 |223=> .fu
 |225=> .pt
 |227=> .gr [(.bool false),(.int .i64 0),(.str []),(.slice true [] []),(.slice true [] []),(.int .u8 0),(.str []),(.str []),(.str []),(.int .i64 0),(.int .i64 0),(.bool false),(.slice true [] []),(.str []),(.slice true [] []),(.str []),(.slice true [] []),(.slice true [] []),(.slice true [] []),(.slice true [] []),(.slice true [] []),(.str []),(.bool false),(.str []),(.slice true [] []),(.bool false),(.int .i64 0),(.str []),(.slice true [] []),(.slice true [] [])] [(0,33),(5,49),(16,163),(21,100)]
 |259=> .fu
 |268=> .im .u32
 |313=> .fu
 |314=> .sl 26 1 24
 |336=> .fu
 |338=> .sl 160 1 24
 |340=> .sl 161 1 24
 |343=> .fu
 |346=> .im .i64
 |354=> .sl 29 1 24
 |356=> .ar [(.slice true [] []),(.slice true [] [])] 2 47
 |363=> .fu
 |_=> .un
def Tz.z:Tz->List D
 | .bo=>[.bool false]
 | .st=>[.str []]
 | .pt=>[.nilptr]
 | .fu=>[.nilFunc]
 | .nf=>[.nilIface]
 | .mp=>[.nilMap]
 | .un=>[]
 | .im k=>[.int k 0]
 | .sl _ _ _=>[.slice true [] []]
 | .gr zs _=>zs
 | .ar zs _ _=>zs
def Tz.k:Tz->Option Nat
 | .gr zs _=>some zs.length
 | .ar zs _ _=>some zs.length
 |_=>none
def Tz.d(t:Tz):D:=match t with
 | .gr zs _=> .agg zs
 | .ar zs _ _=> .agg zs
 |t=>t.z.headD .junk
def Tz.n(t:Tz):Nat:=t.z.length
def tA:Operand->Gz
 | .tmp t=> .t t
 | .const v=> .c ((ofVal v).getD .junk)
 | .func f=> .c (.fn f [])
 | .global _=> .t 0
def lk{α:Type}(d:α)(k:Nat):List (Nat×α)->α
 |[]=>d
 |(j,x)::r=>if j=k then x else lk d k r
def fAt(t:Tz)(f:Nat):Nat×Nat:=match t with
 | .gr _ fs=>fs.getD f (0,0)
 |_=>(0,0)
def Su:List (Nat×Nat)->List (Nat×Nat)
 |[]=>[]
 |(o,t)::r=>(match zT t with
  | .im _=>[(0,o)]
  | .bo=>[(1,o)]
  | .st=>[(2,o)]
  | .gr _ fs=>fs.map λp=>((match zT p.2 with| .im _=>0| .bo=>1|_=>2),o+p.1)
  |_=>[])++Su r
def tE(ne:Bool)(t:Tz)(a b:Gz):DOp:=match t with
 | .bo=> .beq ne a b
 | .im _=> .bin (if ne=true then .neq else .eql) a b
 | .st=> .bin (if ne=true then .neq else .eql) a b
 | .gr _ fs=> .seq ne (Su fs) a b
 | .sl _ _ _=> .nileq ne 0 a b
 | .pt=> .nileq ne 1 a b
 | .fu=> .nileq ne 3 a b
 | .nf=> .nileq ne 2 a b
 |_=> .stop
def tB(o:BinOp)(t:Tz)(a b:Gz):DOp:=match o with
 | .eql=>tE false t a b
 | .neq=>tE true t a b
 |o=> .bin o a b
def tC(s t:Tz)(x:Gz):DOp:=match s,t with
 | .im _,.im k=> .conv k x
 | .st,.st=> .s2s x
 | .st,.sl _ _ _=> .s2b x
 | .sl _ _ _,.st=> .b2s x
 |_,_=> .stop
def tX(t:Tz)(x i:Gz):DOp:=match t with
 | .sl _ s _=> .iaddr s x i
 | .ar _ n e=> .iadda n (zT e).n x i
 |_=> .stop
def tI(t:Tz)(x i:Gz):DOp:=match t with
 | .st=> .idxs x i
 | .ar _ n e=>(match (zT e).k with
  |none=> .idxa n x i
  |some s=> .idxm n s x i)
 |_=> .stop
def tS(t:Tz)(x:Gz)(l h:Option Gz):DOp:=match t with
 | .st=> .cuts x l h
 | .sl _ s _=> .cutl s x l h
 |_=> .stop
def tP(t:Tz)(l:List (Nat×Operand)):DOp:=match t with
 | .gr zs fs=> .build zs (l.map λp=>((fs.getD p.1 (0,0)).1,(zT (fs.getD p.1 (0,0)).2).n,tA p.2))
 | .ar zs _ e=> .build zs (l.map λp=>(p.1*(zT e).n,(zT e).n,tA p.2))
 |_=> .stop
def tG(t:Tz)(l:List (Nat×Operand)):DOp:=match t with
 | .sl e s _=> .bslice e s (l.map λp=>tA p.2)
 |_=> .stop
def tM(t:Tz)(n c:Gz):DOp:=match t with
 | .sl e s b=> .mksl e s b (zT e).d n c
 |_=> .stop
def tL(c:Callee)(xs:List Operand)(ts:List Nat):DOp:=match c with
 | .value f=> .call (tA f) (xs.map tA)
 | .builtin .len=>(match xs,ts with
  |[x],[t]=>(match zT t with| .st=> .len true (tA x)|_=> .len false (tA x))
  |_,_=> .stop)
 | .builtin .append=>(match xs,ts with
  |[x,y],[t,_]=>(match zT t with| .sl e s b=> .app e s b (tA x) (tA y)|_=> .stop)
  |_,_=> .stop)
 | .builtin .max=>(match xs with|[x,y]=> .mxm true (tA x) (tA y)|_=> .stop)
 | .builtin .min=>(match xs with|[x,y]=> .mxm false (tA x) (tA y)|_=> .stop)
 |_=> .stop
def tO:Op->DOp
 | .move x=> .mv (tA x)
 | .assign x=> .mv (tA x)
 | .pick c a b=> .pick (tA c) (tA a) (tA b)
 | .alloc t=> .alloc (zT t).z
 | .box _ x=> .box (tA x)
 | .build t l=>tP (zT t) l.toList
 | .buildSlice t _ l=>tG (zT t) l.toList
 | .load t x=> .load (zT t).k (tA x)
 | .store t x v=> .store (zT t).n (tA x) (tA v)
 | .nilCheck x=> .nilchk (tA x)
 | .binOp o t x y _=>tB o (zT t) (tA x) (tA y)
 | .unOp o _ x=> .un o (tA x)
 | .convert s t x=>tC (zT s) (zT t) (tA x)
 | .fieldAddr t x f=> .faddr (fAt (zT t) f).1 (tA x)
 | .field t x f=> .field (zT (fAt (zT t) f).2).k (fAt (zT t) f).1 (tA x)
 | .indexAddr t x i=>tX (zT t) (tA x) (tA i)
 | .index t x i=>tI (zT t) (tA x) (tA i)
 | .slice t x l h _=>tS (zT t) (tA x) (l.map tA) (h.map tA)
 | .makeInterface t x=> .mkif t (tA x)
 | .typeAssert x _ t ok=> .tass t ok (zT t).d (tA x)
 | .extract x i=> .ext i (tA x)
 | .makeSlice t n c=>tM (zT t) (tA n) (tA c)
 | .range _ x=> .range (tA x)
 | .next x _=> .next (tA x)
 | .makeFunc (.func f) _ l=> .mkfn f (l.toList.map tA)
 | .call c=>tL c.callee c.args.toList c.argTypes.toList
 |_=> .stop
def tR(o:Oper):DOper:=⟨o.dst,tO o.op,[],o.guard⟩
def rW:Code->Nat
 | .region i _ _=>i
 | .seq a _=>rW a
 | .block _ a=>rW a
 | .loop a=>rW a
 |_=>0
def Wm(k:Nat):Code->Option Code
 | .seq a b=>(Wm k a).or (Wm k b)
 | .cond _ a b=>(Wm k a).or (Wm k b)
 | .block _ a=>Wm k a
 | .loop a=>if rW a=k then some a else Wm k a
 |_=>none
def tQ(ps:List (Nat×List (Nat×Nat)))(ls:List (Nat×DC)):Code->DC
 | .skip=> .skip
 | .ret=> .ret
 | .exit i=> .exit i
 | .region i ops false=> .row (ops.toList.map tR)
 | .region i ops true=> .drawn (ops.toList.map tR) (lk [] i ps)
 | .seq a b=> .seq (tQ ps ls a) (tQ ps ls b)
 | .cond c a b=> .cond (tA c) (tQ ps ls a) (tQ ps ls b)
 | .block i c=> .block i (tQ ps ls c)
 | .loop c=> .loop (lk .skip (rW c) ls)
 |_=> .skip
def tAi(k i):tA (.const (.int k i))= .c (.int k i):=rfl
def tAb(b):tA (.const (.bool b))= .c (.bool b):=rfl
def tAs(s):tA (.const (.string s))= .c (.str s.data.toList):=rfl
def tAl:tA (.const (.slice none 0 0))= .c (.slice true [] []):=rfl
def tAp:tA (.const (.pointer none))= .c .nilptr:=rfl
def tAn:tA (.const .nilIface)= .c .nilIface:=rfl
def tAu:tA (.const .nilFunc)= .c .nilFunc:=rfl
def tAg(l):tA (.const (.agg l))= .c ((ofVal (.agg l)).getD .junk):=rfl
def tAt(t):tA (.tmp t)= .t t:=rfl
def tAf(f):tA (.func f)= .c (.fn f []):=rfl
def bAt(f:Func):Code:=f.body.getD .skip
abbrev y0(f:Func)(ps:List (Nat×List (Nat×Nat)))(ls:List (Nat×DC)){c:DC}(_:tQ ps ls (bAt f)=c:=by exact Eq.trans (by conv=>lhs;whnf) (by simp only[tQ,tR,tO,tAt,tAi,tAb,tAs,tAf,tAl,tAp,tAn,tAu,tAg,zT,Tz.k,Tz.z,Tz.n,Tz.d,tL,tP,tB,tE,tX,tS,tI,tG,tC,tM,fAt,Su,lk,ofVal,List.getD_cons_zero,List.getD_cons_succ,List.map_cons,List.map_nil,List.length_cons,List.length_nil,List.headD_cons,List.cons_append,List.nil_append,Option.map_some,Option.map_none,Option.getD_some,Bool.false_eq_true,reduceIte,Nat.reduceAdd,Nat.reduceMul,Nat.reduceEqDiff]<;>rfl)):DC:=c
abbrev y1(f:Func)(k:Nat)(ps:List (Nat×List (Nat×Nat)))(ls:List (Nat×DC)){c:DC}(_:tQ ps ls ((Wm k (bAt f)).getD .skip)=c:=by exact Eq.trans (by conv=>lhs;whnf) (by simp only[tQ,tR,tO,tAt,tAi,tAb,tAs,tAf,tAl,tAp,tAn,tAu,tAg,zT,Tz.k,Tz.z,Tz.n,Tz.d,tL,tP,tB,tE,tX,tS,tI,tG,tC,tM,fAt,Su,lk,ofVal,List.getD_cons_zero,List.getD_cons_succ,List.map_cons,List.map_nil,List.length_cons,List.length_nil,List.headD_cons,List.cons_append,List.nil_append,Option.map_some,Option.map_none,Option.getD_some,Bool.false_eq_true,reduceIte,Nat.reduceAdd,Nat.reduceMul,Nat.reduceEqDiff]<;>rfl)):DC:=c
end Go.Vd
namespace Go.Vd
open Go.RowKit
structure nU (p:Id->Id):Prop where
 inv:∀i,p (p i)=i
 nil:p []=[]
def nU.inj{p:Id->Id}(h:nU p){i j:Id}(e:p i=p j):i=j:=by rw[←h.inv i,e,h.inv]
def nU.nn{p:Id->Id}(h:nU p){i:Id}(e:p i≠[]):i≠[]:=λhi=>e (by rw[hi,h.nil])
section
variable{P:Program}{S:Gq}{f:FuncId}{N:Nat}{dc:DC}{rs:List RV}
end
section
variable{P:Program}{f:FuncId}
end
def Dq(e:Nat):G_ where
 rd:=λ_ _=>[]
 ex:=λds _ fr=>match ds with
  |[.slice true _ [],.int .i64 k]=>if 0<k∧k<=1000000 then some (.slice false (0::fr) [],[(0::fr,0,[.tok (e+1)])])else none
  |_=>none
def L7 {P:Program} {f:FuncId} {e sz:Nat} (va:∃fn,P.funcs[f]?=some fn∧fn.body.isSome=true∧(fn.name== "runtime.NumGoroutine")=false) (ja:0<sz)
  (hi:∃ti z,P.info? e=some ti∧ti.size=sz∧ti.zero=some z∧z.cells.size=sz)
  (b:∀(w:World)(k:Nat),0<k->k<=1000000->Calls P f #[.slice none 0 0,.int .i64 (k:Int)] w λev w'=>∃c cs,c<=maxLen∧cs.size=c*sz∧ev= .returned (.slice (some ⟨w.heap.size,0,none⟩) 0 c)∧w'=w.drew.alloc (.cells cs e)):(Dq e).ok P f:=by
 refine⟨va,λds m m' fr _=>rfl,?_⟩;intro B w0 w m g fr ds vs r u ka q hl s y;simp only[Dq]at y;split at y
 ·rename_i t k;split at y
  ·rename_i hc;obtain⟨sa,hk⟩:=hc;simp only[Qb,Qs]at y;obtain⟨rfl,rfl⟩:=y
   match vs,hl with
   |[v0,v1],_=>
    have pa:=s 0 _ v0 rfl rfl;have ra:=(s 1 _ v1 rfl rfl).int_inv;subst ra;have e0:v0= .slice none 0 0:=by
     rcases pa.slice_inv with ⟨_,_,e⟩|⟨h,_⟩
     ·exact e
     ·cases h
    subst e0;have ga:((k.toNat:Nat):Int)=k:=Int.toNat_of_nonneg O;have hw:=b w k.toNat O O;rw[ga]at hw;refine hw.mono ?_;rintro ev w' ⟨c,cs,fb,na,rfl,rfl⟩;have ua:=q (0::fr) (QI 0 fr);have a:=(ka.drew).newTok ua (e:=e) (n:=0) (c:=c) (sz:=sz) (cur:=cs) ja hi (Qx _) fb na;have la:=(GR.drew w g).trans (GR.newTok (w:=w.drew) (t:=0::fr) (n:=0) (c:=c) (sz:=sz) (Obj.cells cs e) ka.drew.gz ua.2.2 rfl);refine⟨_,_,rfl,a,la,?_,λi hf o=>CD hf (λh=>o ((QI 0 fr).trans h)) _ _ _ _ _⟩;exact aH (sz:=sz) (xs:=[]) (vs:=[]) (cur:=cs) (T:=e) (fz:=(0,0)) (heap_alloc_new w.drew _) rfl (Qx _) (λd p=>by cases p) (AU.nil _ _) (λj v x=>by simp at x) U (λ_=>Xk) (λd p=>by cases p)
  ·cases y
 ·cases y
def EM:List D->Option (List D)
 |[]=>some []
 | .slice _ _ xs::r=>(EM r).map (xs++·)
 |_=>none
def Uh:D->Bool
 | .str _=>true
 |_=>false
def kX:D->List UInt8
 | .str s=>s
 |_=>[]
def aFC{P:Program}{B:Nat}{w0 w w':World}{m:Gu}{g:Gh}{e n:Nat}{v:Value}{xs:List D}(hi:GD P B w0 m w g)(o:Below w.heap.size w w')(q:xs.all Uh=true)(hn:n=xs.length)
  (ho:w'.ownsRow w.heap.size e 1 v n (xs.map λd=>Value.string ⟨(kX d).toArray⟩)) (hv:v≠ .slice none 0 0):Rep w' (g.over w w') (.slice false [] xs) v:=by
 obtain⟨u,t⟩:=ho;rcases t with ⟨t,_⟩|⟨b,cap,cur,rfl,z,y,k,i,f,na⟩
 ·exact absurd t hv
 ·have c:∀d∈xs,d.cells.length=1∧d.calm=true:=by
   intro d p;have:=Qt.1 q d p;unfold Uh at this;split at this
   ·exact YX
   ·cases this
  have qa:AU w' (g.over w w') (flat xs) (xs.map λd=>Value.string ⟨(kX d).toArray⟩):=by
   clear hn u na hv;induction xs with
   |nil=>exact AU.nil _ _
   |cons x r ih=>
    simp only[ZI,Q3]at q;have a:=ih q.2 (λd p=>c d (Q1 _ p))
    match x,q.1 with
    | .str s,_=>exact AU.append (AU.one (.str s) rfl) a
  refine aH (sz:=1) (vs:=xs.map λd=>Value.string ⟨(kX d).toArray⟩) y hn k (λd p=>(c d p).1) qa (λj v hv=>?_) ?_ (λh=>absurd rfl h) (λd p=>(c d p).2)
  ·grind
  ·grind [Gh.over]
mutual
def D.off(i:Id):D->Bool
 | .ptr j _=>j !=i
 | .row j _=>j !=i
 | .agg cs=>aV i cs
 | .tup cs=>aV i cs
 | .fn _ cs=>aV i cs
 |_=>true
def aV(i:Id):List D->Bool
 |[]=>true
 |d::r=>D.off i d&&aV i r
end
def H3{i:Id}:∀{l:List D},aV i l=true↔∀d∈l,d.off i=true
 |[]=>by simp[aV]
 |d::r=>by simp only[aV,Q3,H3,Zm,forall_eq_or_imp]
def TX{i:Id}{w:World}{g:Gh}{ds:List D}{vs:List Value}(hl:vs.length=ds.length)(h:∀(j:Nat) d v,ds[j]?=some d->vs[j]?=some v->d.off i=true):aV i ds=true:=by
 rw[H3];intro d p;obtain⟨j,q,rfl⟩:=QW p;exact h j _ vs[j] (Qc q) (Qc O)
def Rep.off{w:World}{g:Gh}{i:Id}(hi:g.dl i=none){d:D}{v:Value}(h:Rep w g d v):d.off i=true:=by
 induction h with
 |ptr j o b u=>
  simp only[D.off,bne_iff_ne,ne_eq];rintro rfl;rw[hi]at u;cases u
 |row j n c b q u=>
  simp only[D.off,bne_iff_ne,ne_eq];rintro rfl;rw[hi]at u;cases u
 |agg ds vs u z y ih=>simp only[D.off];exact TX (w:=w) (g:=g) u ih
 |tup ds vs u z ih=>simp only[D.off];exact TX (w:=w) (g:=g) u ih
 |fn f ds vs u z ih=>simp only[D.off];exact TX (w:=w) (g:=g) u ih
 |_=>rfl
def Rep.drop{w:World}{g g':Gh}{i:Id}(ia:∀j b,j≠i->g.dl j=some b->g'.dl j=some b)(hG:∀b,g.G b<=g'.G b)(u:∀j x,g.tb j=some x->g'.tb j=some x){d:D}{v:Value}(h:Rep w g d v)(e:d.off i=true):Rep w g' d v:=by
 have calm:∀{d:D} {v:Value},Rep w g d v->d.calm=true->Rep w g' d v:=λh y=>h.calm_to y (λ_ _=>rfl) hG
 have cf:∀{xs:List D},(∀d∈xs,d.calm=true)->∀d∈flat xs,d.calm=true:=λh9 d p=>by
  have:=Nq h9 d p
  first|exact this|(cases d<;>simp_all [D.calm,D.calm1])
 induction h with
 |junk v=>exact .junk v
 |bool b=>exact .bool b
 |int k n=>exact .int k n
 |str s=>exact .str s
 |nils t=>exact .nils _
 |slice t xs a n c sz vv q z h3 r h5 h6 h7 h8 h9 ih=>
  refine .slice t xs a n c sz vv q z h3 r h5 (λj d p=>calm (h6 j d p) (cf h9 d (Qr p))) (λh=>QR (h7 h) (hG _)) (λht=>?_) h9;obtain⟨q1,q2,q3⟩:=h8 ht;exact⟨q1,q2,u _ _ q3⟩
 |ptr j o b q=>exact .ptr j o b (ia j b (by simpa[D.off]using e) q)
 |row j n c b h0 q=>exact .row j n c b h0 (ia j b (by simpa[D.off]using e) q)
 |eptr ds a vv q z h3 r h5=>exact .eptr ds a vv q z (λj d p=>calm (h3 j d p) (h5 d (Qr p))) (λh=>QR (r h) (hG _)) h5
 |nilp=>exact .nilp
 |agg ds vs q z h3 ih=>
  simp only[D.off,H3]at e;exact .agg _ vs q z (λj d v p m=>ih j d v p m (e d (Qr p)))
 |tup ds vs q z ih=>
  simp only[D.off,H3]at e;exact .tup _ vs q (λj d v p m=>ih j d v p m (e d (Qr p)))
 |iface t d v q z ih=>exact .iface t d v q (calm z q)
 |nili=>exact .nili
 |fn f ds vs q z ih=>
  simp only[D.off,H3]at e;exact .fn f _ vs q (λj d v p m=>ih j d v p m (e d (Qr p)))
 |nilf=>exact .nilf
 |nilm=>exact .nilm
 |itp j b q=>exact .itp j b (u _ _ q)
def aCA{i:Id}{d:D}(h:d.calm1=true):d.off i=true:=by
 cases d with
 |fn f cs=>
  have:cs=[]:=by simpa[D.calm1]using h
  subst this;rfl
 |_=>first|rfl|(simp[D.calm1]at h;done)
def kM:∀{u:GA} {m:Gu} {i:Id} {o:Nat} {d:D},(∀p∈u,∀x∈p.2.2,x.calm1=true)->GA.app m u i o=some d->d.calm1=true∨m i o=some d
 |[],m,i,o,d,_,h=> .inr h
 |(j,k,ds)::u,m,i,o,d,hu,h=>by
  rcases kM (u:=u) (λp t=>hu p (Q1 _ t)) h with h1|h1
  ·exact .inl h1
  ·by_cases y:i=j∧k<=o∧o<k+ds.length
   ·left;have:m.put j k ds i o=ds[o-k]?:=by unfold Gu.put;rw[if_pos y]
    rw[this]at h1;exact hu _ (Q5 ..) d (Qr h1)
   ·grind [Gu.put]
def kL:∀{u:GA} {m:Gu} {i:Id} {o:Nat},(∀p∈u,p.1≠i)->GA.app m u i o=m i o
 |[],m,i,o,_=>rfl
 |(j,k,ds)::u,m,i,o,hu=>by
  have q:=kL (u:=u) (m:=m.put j k ds) (i:=i) (o:=o) (λp y=>hu p (Q1 _ y));have z:i≠j:=λe=>hu _ (Q5 ..) e.symm
  exact q.trans (aA z)
def mM:∀{xs:List D},(∀x∈xs,x.cells=[x])->flat xs=xs
 |[],_=>rfl
 |x::r,h=>by
  rw[flat,h x (Q5 ..),mM λy s=>h y (Q1 _ s)];rfl
section
variable{P:Program}{B:Nat}{w0 w:World}{m:Gu}{g:Gh}{S:Gq}{f:FuncId}{N:Nat}{dc:DC}{rs:List RV}
def Gh.settle(g:Gh)(i:Id)(b n:Nat):Gh:={g with dl:=λj=>if j=i then none else g.dl j,G:=λv=>if v=b then n else g.G v}
theorem aFN (hS : Gq.ok P S) (hf : Fn P f N dc rs) {q : G_} (ea : ∀ ds m m' fr, (∀ l ∈ q.rd ds m, m l.1 l.2 = m' l.1 l.2) → q.ex ds m fr = q.ex ds m' fr)
  (hq : ∀ ds m fr r u, q.ex ds m fr = some (r, u) → (∀ i o, fr <:+ i → m i o = none) → ds.length ≤ N ∧ (∀ p ∈ u, ¬ fr <:+ p.1 ∧ ∀ x ∈ p.2.2, x.calm1 = true) ∧ ∃ xs, r = .slice false [] xs ∧ (∀ x ∈ xs, x.calm = true ∧ x.cells = [x]) ∧
   dc.wp S fr (DM rs fun d m' => ∃ i, d = .row i xs.length ∧ fr <:+ i ∧ (∀ (j : Nat) x, xs[j]? = some x → m' i j = some x) ∧ ∀ i o x, GA.app m u i o = some x → m' i o = some x) ⟨Bv ds, m, 0⟩) : q.ok P f := by
 obtain ⟨fn, ba, h1, h2, h3, h4, h5, h6⟩ := hf.is
 refine ⟨⟨fn, h1, by rw [h2]; rfl, h3⟩, ea, ?_⟩
 intro B w0 w m g fr ds vs r u hi fa hl da aa
 have ca : ∀ k i, (k :: fr) <:+ i → BN m g i := fun k i h => fa i ((QI k fr).trans h)
 obtain ⟨hN, hu, xs, rfl, eb, za⟩ := hq ds m fr r u aa (fun i o h => (fa i h).1 o)
 have oa := FU (ns := fr) hS hf hN hi ca hl da za
 refine oa.mono ?_
 rintro e w' ⟨v, d, m', g', rfl, ka, la, t, ya, i, rfl, fb, ha, sa⟩
 obtain ⟨b, cap, rfl, ma, hb⟩ := ya.row_inv
 obtain ⟨mb, kb, cur, T, a, ua⟩ := ka.obj i b hb
 have va : g.dl i = none := (fa i fb).2.1
 have y : ∀ b', g'.G b' ≤ (g'.settle i b xs.length).G b' := by
  grind [Gh.settle]
 have gb : ∀ {d : D} {v : Value}, Rep w' g' d v → d.off i = true → Rep w' (g'.settle i b xs.length) d v := fun h ho =>
  h.drop (i := i) (fun j b' hj e => by simp only [Gh.settle]; rw [if_neg hj]; exact e) y (fun _ _ e => e) ho
 have base := ka.less sa
 have z : ∀ o, GA.app m u i o = none := fun o => by
  rw [kL (fun p hp e => (hu p hp).1 (e ▸ fb))]; exact (fa i fb).1 o
 have db : ∀ j o d, GA.app m u j o = some d → d.off i = true := by
  intro j o d hd
  rcases kM (fun p hp => (hu p hp).2) hd with h | h
  ·exact aCA h
  ·cases hdl : g.dl j with
   | none =>
    have hk := hi.kind j o d h hdl
    cases d <;> first | rfl | cases hk
   | some b' =>
    obtain ⟨_, _, bb, _, _, hr⟩ := hi.obj j b' hdl
    obtain ⟨v', _, _, jb⟩ := hr o d h
    exact jb.off va
 have ib : GD P B w0 (GA.app m u) w' (g'.settle i b xs.length) := by
  refine ⟨ka.below, ka.size, fun b' ta => ?_, fun b' ta => ?_, fun j b' hj => ?_, fun j j' b' e1 e2 => ?_, fun j o d hm hn => ?_, fun j e hm => ?_, base.tinj, base.itr.to (fun _ _ _ e => e) fun j b1 s p _ _ _ e1 e2 e3 => ?_⟩
  rotate_right
  ·have lb : b1 ≠ b := fun e' => e3 i (e' ▸ hb)
   refine ⟨rfl, rfl, by simp only [Gh.settle]; rw [if_neg lb]; exact e2, fun i' h' => ?_⟩
   simp only [Gh.settle] at h'
   split at h'
   ·cases h'
   ·exact e3 i' h'
  ·simp only [Gh.settle]
   have : b < w'.heap.size := (QG.1 a).1
   rw [if_neg O]; exact ka.gz b' ta
  ·simp only [Gh.settle]; rw [if_neg O]; exact ka.old b' ta
  ·simp only [Gh.settle] at hj
   split at hj
   ·cases hj
   ·rename_i ga
    obtain ⟨p, q, bb, T', hh, r⟩ := base.obj j b' hj
    have lb : b' ≠ b := fun e => ga (ka.inj j i b (e ▸ hj) hb)
    refine ⟨p, by simp only [Gh.settle]; rw [if_neg lb]; exact q, bb, T', hh, fun o d hm => ?_⟩
    obtain ⟨v', r1, r2, r3⟩ := r o d hm
    exact ⟨v', r1, r2, gb r3 (db j o d hm)⟩
  ·simp only [Gh.settle] at e1 e2
   split at e1
   ·cases e1
   ·split at e2
    ·cases e2
    ·exact ka.inj j j' b' e1 e2
  ·by_cases cb : j = i
   ·subst cb; rw [z o] at hm; cases hm
   ·simp only [Gh.settle, if_neg cb] at hn
    exact base.kind j o d hm hn
  ·obtain ⟨b1, n, c, sz, na, t1, t2, t3, t4, t5, t6, t7, t8, t9, xa⟩ := base.tok j e hm
   have lb : b1 ≠ b := fun e' => xa i (e' ▸ hb)
   refine ⟨b1, n, c, sz, na, t1, t2, t3, t4, t5, t6, t7, t8, by simp only [Gh.settle]; rw [if_neg lb]; exact t9, fun i' h' => ?_⟩
   simp only [Gh.settle] at h'
   split at h'
   ·cases h'
   ·exact xa i' h'
 have ab : ∀ (j : Nat), j < xs.length → ∃ v, cur[j]? = some v ∧ v.oneCell' = true ∧ ∃ x, xs[j]? = some x ∧ Rep w' g' x v := by
  intro j hj
  obtain ⟨v', r1, r2, r3⟩ := ua j xs[j] (ha j _ (Qc hj))
  exact ⟨v', r1, r2, _, Qc hj, r3⟩
 have ja : xs.length ≤ cur.size := by
  rcases Zu xs.length with h | h
  ·omega
  ·obtain ⟨v', r1, _⟩ := ab (xs.length - 1) O
   have := (QG.1 r1).1
   omega
 have ia : ∀ x ∈ xs, x.calm = true := fun x hx => (eb x hx).1
 have wa : flat xs = xs := mM fun x hx => (eb x hx).2
 have qa : AU w' (g'.settle i b xs.length) (flat xs) (cur.toList.take xs.length) := by
  rw [wa]
  refine ⟨by simp; omega, fun v hv => ?_, fun j x v hx hv => ?_⟩
  ·obtain ⟨j, hj, rfl⟩ := QW hv
   have ra : j < xs.length := Zj hj (Zg _ _)
   obtain ⟨v', r1, r2, _⟩ := ab j ra
   have : (cur.toList.take xs.length)[j]? = some v' := by rw [QK ra]; simpa using r1
   rw [Qc hj] at this
   rw [QF this]; exact r2
  ·have ra : j < xs.length := (Qq.1 hx).1
   obtain ⟨v', r1, r2, x', pa, r3⟩ := ab j ra
   rw [hx] at pa; obtain rfl := QF pa
   have : (cur.toList.take xs.length)[j]? = some v' := by rw [QK ra]; simpa using r1
   rw [hv] at this; obtain rfl := QF this
   exact r3.calm_to (ia x (Qr hx)) (fun _ _ => rfl) y
 refine ⟨_, g'.settle i b xs.length, rfl, ib, ⟨la.cell, fun b' => QR (la.G b') (y b'), fun j b' hj => ?_, la.G0, la.tb⟩, ?_, fun j hf hn => ?_⟩
 ·simp only [Gh.settle]
  rw [if_neg (fun e => by rw [e, va] at hj; cases hj)]; exact la.dl j b' hj
 ·refine aH (sz := 1) (cur := cur) (vs := cur.toList.take xs.length) a rfl ma (fun d hd => by rw [(eb d hd).2]; rfl) qa (fun j v hv => ?_) (by simp [Gh.settle]) (fun h => absurd rfl h) ia
  have hj : j < xs.length := Zj (Qq.1 hv).1 (Zg _ _)
  rw [QK hj] at hv
  simpa using hv
 ·obtain ⟨k1, k2, k3⟩ := t j hf hn
  refine ⟨fun o => ?_, ?_, k3⟩
  ·cases hx : GA.app m u j o with
   | none => rfl
   | some x => exact absurd (k1 o) (by rw [sa j o x hx]; simp)
  ·simp only [Gh.settle]
   split
   ·rfl
   ·exact k2
end
end Go.Vd
namespace Go.Vd
open Go.Proofs Go.RowKit
def aKb:=y0 f322 [] []
def On:=y1 f294 5 [] []
def aKf:=y0 f294 [] [(5,On)]
def Oo:=y1 f242 3 [] []
def aKo:=y0 f242 [] [(3,Oo)]
def aKP:=y0 f174 [] []
def aLz:=y0 f107 [] []
abbrev Kq(F:List D->Option D)(n:Nat):=(Ac F).ok Qf n
def A2{P:Program}:Gq.ok P (λ_=>none):=λf q h=>Xc
def ED(c:Int):Bool:=decide (97<=c∧c<=122)||decide (65<=c∧c<=90)||decide (48<=c∧c<=57)||decide (c=45)||decide (c=46)||decide (c=95)||decide (192<=c∧c<=55295)
def aEp:List D->Option D
 |[.int .i32 c]=>some (.bool (ED c))
 |_=>none
def aRu:Kq aEp 322:=by
 refine AK (S:=λ_=>none) A2 (Aj func322:Fn Qf 322 35 aKb [.t 2]) (λds r h=>?_) (λds r h=>?_)
 ·unfold aEp at h;split at h
  ·simp
  ·cases h
 ·unfold aEp at h;split at h
  ·rename_i c;simp only[Qb]at h;subst h;unfold aKb;simp only[↓C2,Gy,simprocAttr]
   repeat' (first|(refine aG (λh=>?_) (λh=>?_)<;>try (exfalso;omega))|(simp only[↓C2,Gt,simprocAttr, *]))
   all_goals (rw[D.bool.injEq,Bool.eq_iff_iff];simp[ED];try omega)
  ·cases h
theorem GS{x:Int}(u:-9223372036854775808<=x)(z:x<9223372036854775808):IntKind.i64.wrap x=x:=IntWalk.i64_in _ ⟨u,O⟩
def wJ{j:Nat}(h:j<4611686018427387904):IntKind.i64.wrap ((j:Int)+1)=((j+1:Nat):Int):=GS O O
def nJ{j:Nat}:(0:Int)<=(j:Int):=O
abbrev Bs:=List UInt8
def GP(s:Bs)(i:Nat):Nat:=(s.getD i 0).toNat
theorem P_(s:Bs)(i:Nat):GP s i<256:=UInt8.toNat_lt _
def DS(s:Bs)(i:Nat):Bool:=decide (i<s.length)&&decide (128<=GP s i)&&decide (GP s i<192)
def Ap:List (FuncId×G_)->Gq
 |[],_=>none
 |(k,q)::r,f=>if f=k then some q else Ap r f
def Bd{P:Program}{l:List (FuncId×G_)}(h:Gq.ok P (Ap l)):∃S:Gq,Gq.ok P S∧∀f q,Ap l f=some q->S f=some q:=⟨_,h,λ_ _ e=>e⟩
def Ad{P:Program}:Gq.ok P (Ap []):=λf q h=>Xc
def Aa{P:Program}{k:FuncId}{q:G_}{r:List (FuncId×G_)}(h:q.ok P k)(i:Gq.ok P (Ap r)):Gq.ok P (Ap ((k,q)::r)):=λf s e=>by
 simp only[Ap]at e;split at e
 ·simp_all
 ·exact i f s e
def FI(s:Bs)(i:Nat):Int×Nat:=
 let b:=GP s i
 if b<128 then(b,1)
 else if 192<=b∧b<224∧DS s (i+1)=true∧128<=64*((b:Int)-192)+(GP s (i+1)-128)then(64*((b:Int)-192)+(GP s (i+1)-128),2)
 else if 224<=b∧b<240∧DS s (i+1)=true∧DS s (i+2)=true∧2048<=4096*((b:Int)-224)+64*(GP s (i+1)-128)+(GP s (i+2)-128)∧
   (4096*((b:Int)-224)+64*(GP s (i+1)-128)+(GP s (i+2)-128)<55296∨57343<4096*((b:Int)-224)+64*(GP s (i+1)-128)+(GP s (i+2)-128))then
  (4096*((b:Int)-224)+64*(GP s (i+1)-128)+(GP s (i+2)-128),3)
 else if 240<=b∧b<248∧DS s (i+1)=true∧DS s (i+2)=true∧DS s (i+3)=true∧65536<=262144*((b:Int)-240)+4096*(GP s (i+1)-128)+64*(GP s (i+2)-128)+(GP s (i+3)-128)∧
   262144*((b:Int)-240)+4096*(GP s (i+1)-128)+64*(GP s (i+2)-128)+(GP s (i+3)-128)<=1114111 then
  (262144*((b:Int)-240)+4096*(GP s (i+1)-128)+64*(GP s (i+2)-128)+(GP s (i+3)-128),4)
 else(-1,1)
theorem Fw{s:Bs}{i:Nat}:DS s i=true↔i<s.length∧128<=GP s i∧GP s i<192:=by simp[DS,and_assoc]
def Nc(s:Bs)(i:Nat):((ByteArray.mk s.toArray).get! i).toNat=GP s i:=by
 have:(ByteArray.mk s.toArray).get! i=s.toArray[i]!:=rfl;rw[this];unfold GP;by_cases h:i<s.length
 ·simp[h]
 ·simp[h];rfl
def aFm(s:Bs):(ByteArray.mk s.toArray).size=s.length:=XV
def aBs(s:Bs)(i:Nat)(hi:i<s.length):(Utf8.decode ⟨s.toArray⟩ i).2=(FI s i).2∧ED ((Utf8.decode ⟨s.toArray⟩ i).1:Nat)=ED (FI s i).1:=by
 have r:=P_ s i;have x:=P_ s (i+1);have q:=P_ s (i+2);have b3:=P_ s (i+3);have j:(decide (i+1<s.length)&&(GP s (i+1) / 64==2))=DS s (i+1):=by
  grind [DS]
 have p:(decide (i+2<s.length)&&(GP s (i+2) / 64==2))=DS s (i+2):=by
  grind [DS]
 have y:(decide (i+3<s.length)&&(GP s (i+3) / 64==2))=DS s (i+3):=by
  grind [DS]
 have c1:=@Fw s (i+1);have m:=@Fw s (i+2);have t:=@Fw s (i+3);unfold Utf8.decode FI;simp only[Nc,aFm,Q8,j,p,y];generalize DS s (i+1)=v at *;generalize DS s (i+2)=a at *;generalize DS s (i+3)=e at *;generalize GP s i=f at *;generalize GP s (i+1)=n at *;generalize GP s (i+2)=b at *;generalize GP s (i+3)=d at *;clear j p y;have w:ED ((Utf8.runeError:Nat):Int)=ED (-1):=V
 have u:∀c:Nat,Utf8.valid (c:Int)=true↔(c<55296∨(57344<=c∧c<=1114111)):=by
  intro c;simp[Utf8.valid];omega
 have g:(f / 32==6)=decide (192<=f∧f<224):=Yk
 have k:(f / 16==14)=decide (224<=f∧f<240):=Yk
 have o:(f / 8==30)=decide (240<=f∧f<248):=Yk
 simp only[g,k,o,Q3,decide_eq_true_eq,u,ge_iff_le];clear g k o u;cases v<;>cases a<;>cases e<;>simp only[QS,and_false,false_and,if_false,and_true,true_and,false_iff,true_iff]at c1 m t ⊢
 all_goals (repeat' split)<;>first|exact⟨rfl,w⟩|exact⟨rfl,rfl⟩|(exfalso;omega)|(refine⟨rfl,?_⟩;congr 1;omega)
def aFW(s:Bs)(i:Nat)(hi:i<s.length):1<=(FI s i).2∧i+(FI s i).2<=s.length:=by
 grind [FI,Fw]
def D8(s:Bs):Nat->Nat->Nat->Int
 |0,_,n=>if 12<n then 5 else 0
 |f+1,p,n=>if p<s.length then(if ED (FI s p).1=true then D8 s f (p+(FI s p).2) (n+1)else 4)else if 12<n then 5 else 0
def FE(s:Bs):Int:=if s=[]∨s=[46]∨s=[46,46]∨s=[45]then 4 else D8 s s.length 0 0
def aEq:List D->Option D
 |[.str s]=>if s.length<=1000000 then some (.int .i64 (FE s))else none
 |_=>none
def aF2{S:Gq}{ns i:Id}{s:Bs}{e:Int}{Q:Ex->St->Prop}(o:s.length<=1000000)(a:S 322=some (Ac aEp))
  (x:∀y,e=4->y.s 2= .int .i64 4->Q .ret y) (j:∀y (n:Nat),(if 12<n then(5:Int)else 0)=e->y.s 3= .int .i64 (n:Int)->Q (.exit 0) y):
  ∀(f p n:Nat) y g,s.length<=p+f->p<=s.length->n<=p->D8 s f p n=e->y.s 21= .itp i->y.m i 1=some (.it s p)->y.s 3= .int .i64 (n:Int)->A5 S ns On Q y g:=by
 intro f;induction f with
 |zero=>
  intro p n y g k t c d q w v;refine Af On.eq_1 ?_;have:¬(p<s.length):=O
  simp only[↓C2,Gy,GI,simprocAttr,w,q,this];exact j _ n d Yw
 |succ f ih=>
  intro p n y g k t c d q w v;refine Af On.eq_1 ?_;unfold D8 at d;by_cases r:p<s.length
  ·rw[if_pos r]at d;obtain⟨n1,n2⟩:=aFW s p r;obtain⟨d1,z⟩:=aBs s p r;rw[←d1]at d n1 n2;rw[←z]at d;have hG:aEp [.int .i32 ((Utf8.decode ⟨s.toArray⟩ p).1:Nat)]=some (.bool (ED ((Utf8.decode ⟨s.toArray⟩ p).1:Nat))):=rfl;have w1:IntKind.i64.wrap ((n:Int)+1)=((n+1:Nat):Int):=GS O O;cases ho:ED ((Utf8.decode ⟨s.toArray⟩ p).1:Nat)with
   |true=>
    rw[if_pos ho]at d;simp only[↓C2,Gt,simprocAttr,w,q,v,r,Ab a,hG,ho,w1];exact ih _ _ _ _ O O O d q Ya rfl
   |false=>
    rw[if_neg (by rw[ho];simp)]at d;simp only[↓C2,Gt,simprocAttr,w,q,r,Ab a,hG,ho];exact x _ d.symm rfl
  ·rw[if_neg r]at d;simp only[↓C2,Gy,GI,simprocAttr,w,q,r];exact j _ n d Yw
def aRv:Kq aEq 294:=by
 obtain⟨S,j,hl⟩:=Bd (Aa aRu Ad);have a:=hl 322 _ rfl;clear hl;refine AK (S:=S) j (Aj func294:Fn Qf 294 32 aKf [.t 2]) (λds r h=>?_) (λds r h=>?_)
 ·unfold aEq at h;split at h
  ·simp
  ·cases h
 ·unfold aEq at h;split at h
  ·rename_i s;split at h
   ·rename_i o;simp only[Qb]at h;subst h;unfold aKf FE;by_cases g:s=[]∨s=[46]∨s=[46,46]∨s=[45]
    ·rw[if_pos g];rcases g with rfl|rfl|rfl|rfl<;>simp only[↓C2,Gt,simprocAttr,Qn,show((45:UInt8)=46)=False by decide,and_false,and_self]
    ·rw[if_neg g];obtain⟨a1,k,x,i⟩:s≠[]∧s≠[46]∧s≠[46,46]∧s≠[45]:=by simp only[not_or]at g;exact g
     have c:(s=[])=False:=eq_false a1;have f:(s=[46])=False:=eq_false k;have b:(s=[46,46])=False:=eq_false x;have d:(s=[45])=False:=eq_false i;simp only[↓C2,Gy,GI,simprocAttr,c,f,b,d];refine aF2 (e:=D8 s s.length 0 0) o a (λy u z=>?_) (λy n u z=>?_) s.length 0 0 _ _ O O O rfl rfl Ya rfl
     ·simp only[↓C2,Gt,z,u]
     ·rw[←u];have c1:((12:Int)<(n:Int))=(12<n):=by simp only[eq_iff_iff];omega
      simp only[↓C2,Gy,simprocAttr,z,c1];refine aG (λh=>?_) (λh=>?_)<;>simp only[↓C2,Gt,simprocAttr,h]
   ·cases h
  ·cases h
end Go.Vd
namespace Go.Vd
open Go.RowKit
def splitC(q:UInt8):Bs->List Bs
 |[]=>[[]]
 |c::r=>if c=q then []::splitC q r else match splitC q r with
  |h::t=>(c::h)::t
  |[]=>[[c]]
theorem IE{q:UInt8}:∀s,splitC q s≠[]
 |[]=>by simp[splitC]
 |c::r=>by
  unfold splitC;split
  ·simp
  ·split<;>simp
def split_word{q:UInt8}{w:Bs}(h:q∉w):∀s,splitC q (w++q::s)=w::splitC q s:=by
 induction w with
 |nil=>intro s;simp[splitC]
 |cons c r ih=>
  intro s;simp only[Zm,not_or]at h;simp only[Zd,splitC];rw[if_neg (λe=>h.1 e.symm),ih h.2]
def split_one{q:UInt8}{w:Bs}(h:q∉w):splitC q w=[w]:=by
 induction w with
 |nil=>rfl
 |cons c r ih=>
  simp only[Zm,not_or]at h;simp only[splitC];rw[if_neg (λe=>h.1 e.symm),ih h.2]
def Gw(m:Gu)(c e:Nat)(nl:Bool)(t:Id):Prop:=nl=true∨∃j,t=[j]∧j<c∧m t 0=some (.tok (e+1))
def Gw.grow{m:Gu}{c e c' x:Nat}{nl:Bool}{t:Id}{xs:List D}(h:Gw m c e nl t)(y:c<=c'):Iw (m.put [c'] 0 [.tok x]) e (.slice nl t xs):=by
 rcases h with h|⟨j,rfl,u,z⟩
 ·exact .inl h
 ·refine .inr ⟨?_,U⟩;rw[aA Xb];exact z
theorem Gw.new{m:Gu}{c e c':Nat}{nl:Bool}{t:Id}{xs:List D}(y:c'<c):Gw (GA.app m (A6 e [c'] (.slice nl t xs))) c e false [c']:=by
 refine .inr ⟨c',rfl,y,?_⟩;cases nl<;>simp[A6,GA.app,Bk]
def Gw.more{m:Gu}{c c' e:Nat}{nl:Bool}{t:Id}(h:Gw m c e nl t)(y:c<=c'):Gw m c' e nl t:=by
 rcases h with h|⟨j,u,z,i⟩
 ·exact .inl h
 ·exact .inr ⟨j,u,O,i⟩
def Gw.put{m:Gu}{c e c' o:Nat}{nl:Bool}{t:Id}{ds:List D}(h:Gw m c e nl t)(y:c<=c':=by omega):Gw (m.put [c'] o ds) c e nl t:=by
 rcases h with h|⟨j,rfl,u,z⟩
 ·exact .inl h
 ·refine .inr ⟨j,rfl,u,?_⟩;rw[aA Xb];exact z
def F4:List D->Option (List Bs)
 |[]=>some []
 | .str s::r=>(F4 r).map (s::·)
 |_=>none
def EX:∀{xs:List D} {l:List Bs},F4 xs=some l->xs=l.map .str
 |[],l,h=>by simp only[F4,Qb]at h;subst h;rfl
 |x::r,l,h=>by
  unfold F4 at h;split at h
  ·rename_i f;cases f
  ·rename_i s p f;simp only[Qn]at f;obtain⟨rfl,rfl⟩:=f;rw[Ql]at h;obtain⟨q,u,rfl⟩:=h;rw[EX u];rfl
  ·cases h
theorem F_:∀l:List Bs,F4 (l.map .str)=some l
 |[]=>rfl
 |i::r=>by simp only[Q0,F4];rw[F_ r];rfl
def VC:∀l:List Bs,(l.map D.str).all Uh=true
 |[]=>rfl
 |w::r=>by
  show(Uh (.str w)&&_)=true;rw[VC r];rfl
end Go.Vd
namespace Go.Proofs
open Go.Shelf Go.RowKit Go.Lib
variable{P:Program}{ρ:Ren}
def I5{c:UInt8}{r:List UInt8}:∀{w:List UInt8},c∉w->Lib.indexByte (w++c::r) c=w.length
 |[],_=>by simp[Lib.indexByte]
 |b::w,h=>by
  simp only[Zm,not_or]at h;have ih:=I5 (r:=r) h.2;have o:(b==c)=false:=beq_eq_false_iff_ne.2 (λe=>h.1 e.symm);have u:((w.length:Int)==-1)=false:=beq_eq_false_iff_ne.2 O;rw[Zd,Lib.indexByte,o,ih,u];simp
def splitK_eq(q:UInt8):∀(n:Nat)(s:List UInt8),s.length<=n->Lib.splitK [q] 0 (s.count q) s=Go.Vd.splitC q s:=by
 intro n;induction n with
 |zero=>intro s h;obtain rfl:s=[]:=Zo.1 O;rfl
 |succ n ih=>
  intro s h;by_cases k:q∈s
  ·obtain⟨w,r,rfl,v⟩:=List.eq_append_cons_of_mem k;have y:(w++q::r).count q=r.count q+1:=by rw[List.count_append,Zf v];simp
   have hi:Lib.index (w++q::r) [q]=w.length:=by rw[Lib.index_one];exact I5 v
   have u:¬((w.length:Int)==-1)=true:=λe=>by have:=beq_iff_eq.1 e;omega
   rw[y,Lib.splitK,hi,if_neg u,Go.Vd.split_word v,Qj];have j:(w++q::r).take (w.length+0)=w:=U
   have f:(w++q::r).drop (w.length+[q].length)=r:=by
    simp_all
   rw[j,f,ih r (by simp at h;omega)]
  ·rw[Zf k,Go.Vd.split_one k];rfl
set_option maxHeartbeats 1000000 in
def split_space(q:UInt8)(L:Lays.n146 P ρ)(h:(P.info? (ρ.t 9)).map (λi=>(i.zero,i.size,i.bytes))=some (some (.string ByteArray.empty),1,16))(s:ByteArray)(w:World)(o:s.size<4294967281):
  Calls P (ρ.f 146) #[.string s,.string ⟨#[q]⟩] w λe n=>
   e= .returned (.slice (some ⟨w.heap.size,0,none⟩) (Lib.countB s ⟨#[q]⟩+1) (Lib.countB s ⟨#[q]⟩+1))∧n=w.alloc (.cells ((Lib.splitB ⟨#[q]⟩ 0 (Lib.countB s ⟨#[q]⟩) s).map Value.string).toArray (ρ.t 9)):=by
 have u:1<=(⟨#[q]⟩:ByteArray).size:=QA 1;have m:=Lib.countB_le ⟨#[q]⟩ u s.size s (QA _);have v:=Lib.splitB_all ⟨#[q]⟩ u 0 _ s rfl;have c:=Any.strings_genSplit_core {L with} h s ⟨#[q]⟩ 0 (-1) (Lib.countB s ⟨#[q]⟩+1) w o u (Qx _)
  (λx cc _=>(Any.strings_Index_one {L with} x q _).mono λe n ⟨r,z⟩=>⟨by rw[r,←Lib.index_one],z⟩)
  ((Any.strings_Count_one {L with} s q w).mono λe n ⟨r,z⟩=>⟨by rw[r];show _=Ending.returned (Value.int .i64 ((Lib.count s.data.toList [q]:Nat):Int));rw[Lib.count_one];rfl,z⟩)
  V V (by rw[if_pos V];omega)
 rw[Zv,v]at c;have y:Lib.cellsOf (Lib.splitB ⟨#[q]⟩ 0 (Lib.countB s ⟨#[q]⟩) s) (Lib.countB s ⟨#[q]⟩+1)=((Lib.splitB ⟨#[q]⟩ 0 (Lib.countB s ⟨#[q]⟩) s).map Value.string).toArray:=by rw[←v];exact Lib.cellsOf_full _
 rw[y]at c;have k:=L.t3;have t9:=L.t9;have j:=L.t31;have p:=L.a3;have a9:=L.a9;have g:=L.a31;have z3:=L.z3;have v3:=L.v3;have z9:=L.z9;have v9:=L.v9;have b:=L.z31;have d:=L.v31;have a:∀args w,(callFunc (ρ.f 221) args).run P w= .ok (.enter (ρ.f 221) args) w:=enters_of L.f221 Z rfl
 go_enter L.f146,Body.n146_ntmps ρ
 go_wp2_with (go_at_fn (ρ.f 221);refine c.mono ?_;rintro e n ⟨rfl,z⟩;rw[z])
 go_ret
 exact YX
end Go.Proofs
namespace Go.Vd
open Go.RowKit Go.Proofs
def CM:List D->Option D
 |[.str s,.str [q]]=>if s.length<=1000000 then some (.slice false [] ((splitC q s).map .str))else none
 |_=>none
def Cs{q:UInt8}:∀s:Bs,(splitC q s).length<=s.length+1
 |[]=>by simp[splitC]
 |c::r=>by
  have ih:=Cs (q:=q) r;unfold splitC;split
  ·simp;omega
  ·grind
def xC {P:Program} {ρ:Go.Shelf.Ren} (L:Go.Proofs.Lays.n146 P ρ) (h:(P.info? (ρ.t 9)).map (fun i=>(i.zero,i.size,i.bytes))=some (some (.string ByteArray.empty),1,16)) (va:∃fn,P.funcs[ρ.f 146]?=some fn∧fn.body.isSome=true∧(fn.name== "runtime.NumGoroutine")=false):(Ac CM).ok P (ρ.f 146):=by
 refine⟨va,λds m m' fr _=>rfl,?_⟩;intro B w0 w m g fr ds vs r u hi fa hl da y;simp only[Ac]at y;split at y
 ·rw[Ql]at y;obtain⟨r',hr,y⟩:=y;simp only[Qs]at y;obtain⟨rfl,rfl⟩:=y
  match ds,vs,hl with
  |[d,d1],[v,v1],_=>
   have h0:=da 0 d v rfl rfl;have h1:=da 1 d1 v1 rfl rfl;have p:∃s,d= .str s:=by
    cases d<;>first|exact⟨_,rfl⟩|(exfalso;simp[CM,D.un]at hr;done)
   obtain⟨s,rfl⟩:=p;have c:∃q,d1= .str [q]:=by
    cases d1 with
    |str z=>
     simp only[Q0,QV,D.un,CM]at hr;split at hr
     ·simp_all
     ·cases hr
    |_=>exfalso;simp[CM,D.un]at hr
   obtain⟨q,rfl⟩:=c;simp only[Q0,QV,D.un,CM]at hr;split at hr
   ·rename_i hc;simp only[Qb]at hr;subst hr;rw[h0.str_inv,h1.str_inv];have a:Lib.countB ⟨s.toArray⟩ ⟨#[q]⟩=s.count q:=by
     show Lib.count s [q]=_;exact Lib.count_one q s
    have b:(Lib.splitB ⟨#[q]⟩ 0 (s.count q) ⟨s.toArray⟩).map (·.data.toList)=splitC q s:=by
     rw[Lib.splitB_data];exact Go.Proofs.splitK_eq q s.length s (QA _)
    have j:(splitC q s).length=s.count q+1:=by
     rw[←b,Qy,←a];exact Lib.splitB_all ⟨#[q]⟩ (QA 1) 0 _ _ rfl
    refine(Go.Proofs.split_space q L h ⟨s.toArray⟩ w (by show s.length<_;omega)).mono ?_;rintro ev w' ⟨rfl,rfl⟩;have o:Below w.heap.size w (w.alloc (.cells ((Lib.splitB ⟨#[q]⟩ 0 (Lib.countB ⟨s.toArray⟩ ⟨#[q]⟩) ⟨s.toArray⟩).map Value.string).toArray (ρ.t 9))):=(Below.refl _ _).alloc (QA _) _;refine⟨_,g.over w _,rfl,hi.over o,GR.over hi.gz o,aFC (e:=ρ.t 9) (n:=s.count q+1) hi o (VC _) (by rw[Qy,j]) ?_ U,λi hf _=>hf⟩;have ka:=Cs (q:=q) s;have k:((splitC q s).map D.str).map (λd=>Value.string ⟨(kX d).toArray⟩)=(Lib.splitB ⟨#[q]⟩ 0 (s.count q) ⟨s.toArray⟩).map Value.string:=by
     rw[←b,QJ,QJ];refine QD λx _=>?_
     rfl
    rw[k,a];have xa:((Lib.splitB ⟨#[q]⟩ 0 (s.count q) ⟨s.toArray⟩).map Value.string).length=s.count q+1:=by
     rw[←j,←b];simp
    refine⟨by rw[xa];omega,.inr ⟨w.heap.size,s.count q+1,_,rfl,QA _,heap_alloc_new w _,QA _,?_,?_,?_⟩⟩
    ·rw[j]at ka;have:maxLen=9223372036854775807:=rfl;omega
    ·rw[List.size_toArray,xa];omega
    ·rw[Q9 (by rw[xa];omega)]
   ·cases hr
  |[],_,_=>simp[CM]at hr
  |[_],_,_=>simp[CM]at hr
  |_::_::_::_,_,_=>simp[CM]at hr
 ·cases y
end Go.Vd
namespace Go.Vd
open Go.Proofs Go.RowKit
def Fo:Bool->List Bs->Option Bool
 |w,[]=>some w
 |w,p::r=>if FE p=4 then none else Fo (w||decide (FE p=5)) r
def wI(w:Bool):Int:=if w=true then 5 else 0
def Ie(l:List Bs):Int:=match Fo false l with
 |none=>4
 |some w=>if w=true then 5 else if 6<l.length then 24 else 0
def okL(l:List Bs):Prop:=l.length<=1000001∧∀p∈l,p.length<=1000000
theorem NH(s:Bs):FE s=4∨FE s=5∨FE s=0:=by
 have:∀f p n,D8 s f p n=4∨D8 s f p n=5∨D8 s f p n=0:=by
  intro f;induction f with
  |zero=>intro p n;unfold D8;split<;>simp
  |succ f ih=>
   intro p n;unfold D8;split
   ·grind
   ·split<;>simp
 unfold FE;split
 ·simp
 ·exact this _ _ _
open Classical in
def aEr:List D->Option D
 |[.slice _ _ xs]=>match F4 xs with
  |some l=>if okL l then some (.int .i64 (Ie l))else none
  |none=>none
 |_=>none
def aF3{S:Gq}{ns:Id}{l:List Bs}{nl:Bool}{t:Id}{e:Option Bool}{Q:Ex->St->Prop}(o:okL l)(a:S 294=some (Ac aEq))
  (pa:∀y,e=none->y.s 2= .int .i64 4->Q .ret y) (j:∀y w,e=some w->y.s 3= .int .i64 (wI w)->y.s 0= .slice nl t (l.map .str)->Q (.exit 0) y):
  ∀(n k:Nat)(w:Bool) y g,n=l.length-k->k<=l.length->Fo w (l.drop k)=e->y.s 8= .int .i64 (k:Int)->y.s 7= .int .i64 (l.length:Int)->y.s 6= .slice nl t (l.map .str)->y.s 0= .slice nl t (l.map .str)->y.s 3= .int .i64 (wI w)->A5 S ns Oo Q y g:=by
 intro n;induction n with
 |zero=>
  intro k w y g c p d b h7 h6 f i;refine Af Oo.eq_1 ?_;have:¬((k:Int)<l.length):=O
  simp only[↓C2,Gy,GI,reduceIte,Qe,b,h7,this];rw[List.drop_eq_nil_of_le O]at d;exact j _ w d.symm (by simp only[↓C2,reduceIte,Qd,i]) (by simp only[↓C2,reduceIte,Qd,f])
 |succ n ih=>
  intro k w y g c p d b h7 h6 f i;refine Af Oo.eq_1 ?_;have x:k<l.length:=O
  have r:((k:Int)<l.length):=O
  have m:(0:Int)<=(k:Int):=O
  have q:(l.map D.str)[(k:Int).toNat]?=some (.str (l[k])):=by simp[x]
  have z:=o.1;have v:IntKind.i64.wrap ((k:Int)+1)=((k+1:Nat):Int):=GS O O;have hF:aEq [.str l[k]]=some (.int .i64 (FE l[k])):=if_pos (o.2 _ (Ze x));rw[Q4 x]at d;simp only[Fo]at d;rcases NH l[k]with h|h|h
  ·rw[if_pos h]at d;rw[h]at hF;simp only[↓C2,Gt,simprocAttr,b,h7,h6,r,m,q,Ab a,hF];exact pa _ d.symm rfl
  ·rw[if_neg O,h]at d;rw[h]at hF;have c1:((5:Int)=4)=False:=by simp
   simp only[↓C2,Gt,simprocAttr,b,h7,h6,r,m,q,Ab a,hF,c1,v];exact ih (k+1) true _ _ O O XK rfl h7 h6 f rfl
  ·rw[if_neg O,h]at d;rw[h]at hF;have c1:((0:Int)=4)=False:=by simp
   have u:((0:Int)=5)=False:=U
   simp only[↓C2,Gt,simprocAttr,b,h7,h6,r,m,q,Ab a,hF,c1,u,v];exact ih (k+1) w _ _ O O XK rfl h7 h6 f i
def aRw:Kq aEr 242:=by
 obtain⟨S,j,hl⟩:=Bd (Aa aRv Ad);have a:=hl 294 _ rfl;clear hl;refine AK (S:=S) j (Aj func242:Fn Qf 242 27 aKo [.t 2]) (λds r h=>?_) (λds r h=>?_)
 ·unfold aEr at h;split at h
  ·simp
  ·cases h
 ·unfold aEr at h;split at h
  ·rename_i nl t xs;split at h
   ·rename_i l hl;obtain rfl:=EX hl;split at h
    ·rename_i o;simp only[Qb]at h;subst h;unfold aKo Ie;simp only[↓C2,Gy,simprocAttr,Qy];have g:=o.1;refine aF3 (nl:=nl) (t:=t) (e:=Fo false l) o a (λy u z=>?_) (λy w u z i=>?_) l.length 0 false _ _ O O rfl rfl rfl rfl rfl rfl
     ·simp only[↓C2,Gt,z,u]
     ·have c1:((6:Int)<(l.length:Int))=(6<l.length):=by simp only[eq_iff_iff];omega
      have m:((5:Int)=0)=False:=U
      have s:((0:Int)=0)=True:=U
      cases w<;>simp only[wI,reduceIte,QS]at z<;>simp only[↓C2,Gt,simprocAttr,u,z,i,Qy,c1,m];refine aG (λh=>?_) (λh=>?_)<;>simp only[↓C2,Gt,simprocAttr,h,z,u]
    ·cases h
   ·cases h
  ·cases h
def AQ(s:Bs):Int:=if 64<s.length then 5 else Ie (splitC 47 s)
def eX{s:Bs}(h:s.length<=1000000):okL (splitC 47 s):=by
 have:∀(s:Bs) w,w∈splitC 47 s->w.length<=s.length:=by
  intro s;induction s with
  |nil=>intro w v;simp[splitC]at v;simp[v]
  |cons c r ih=>
   intro w v;unfold splitC at v;split at v
   ·grind
   ·grind
 have z:=Cs (q:=47) s;exact⟨O,λp y=>by have:=this s p y;omega⟩
end Go.Vd
namespace Go.Proofs
open Go.Shelf
def aN:Go.Shelf.Ren:=⟨λ|146=>42|221=>95|268=>162|138=>163|143=>164|195=>234|197=>235|218=>236|219=>237|260=>286|217=>287|225=>288|224=>289|267=>290|266=>319|314=>320|n=>n,λ|9=>9|31=>23|3=>3|4=>4|0=>0|105=>303|21=>21|5=>5|46=>109|119=>368|139=>371|138=>370|146=>269|51=>268|n=>n,λ|1=>0|3=>1|4=>2|n=>n⟩
def aO:Go.Proofs.Lays.n146 Qf aN:={
 mixed:=Z
 f138:=func163.trans (congrArg some Z)
 f143:=func164.trans (congrArg some Z)
 f146:=func42.trans (congrArg some Z)
 f195:=func234.trans (congrArg some Z)
 f197:=func235.trans (congrArg some Z)
 f217:=func287.trans (congrArg some Z)
 f218:=func236.trans (congrArg some Z)
 f219:=func237.trans (congrArg some Z)
 f221:=func95.trans (congrArg some Z)
 f224:=func289.trans (congrArg some Z)
 f225:=func288.trans (congrArg some Z)
 f260:=func286.trans (congrArg some Z)
 f266:=func319.trans (congrArg some Z)
 f267:=func290.trans (congrArg some Z)
 f268:=func162.trans (congrArg some Z)
 f314:=func320.trans (congrArg some Z)
 t0:=underlying0
 a0:=isAgg0
 z0:=sizeOf0
 v0:=zeroValue0
 t3:=underlying3
 a3:=isAgg3
 z3:=sizeOf3
 v3:=zeroValue3
 t4:=underlying4
 a4:=isAgg4
 z4:=sizeOf4
 v4:=zeroValue4
 t5:=underlying5
 a5:=isAgg5
 z5:=sizeOf5
 v5:=zeroValue5
 t9:=underlying9
 a9:=isAgg9
 z9:=sizeOf9
 v9:=zeroValue9
 t21:=underlying21
 a21:=isAgg21
 z21:=sizeOf21
 v21:=zeroValue21
 t31:=underlying23
 a31:=isAgg23
 z31:=sizeOf23
 v31:=zeroValue23
 t46:=underlying109
 a46:=isAgg109
 z46:=sizeOf109
 v46:=zeroValue109
 t51:=underlying268
 a51:=isAgg268
 z51:=sizeOf268
 v51:=zeroValue268
 t105:=underlying303
 a105:=isAgg303
 z105:=sizeOf303
 v105:=zeroValue303
 t119:=underlying368
 a119:=isAgg368
 z119:=sizeOf368
 t138:=underlying370
 a138:=isAgg370
 z138:=sizeOf370
 v138:=zeroValue370
 t139:=underlying371
 a139:=isAgg371
 z139:=sizeOf371
 v139:=zeroValue371
 t146:=underlying269
 a146:=isAgg269
 z146:=sizeOf269
 v146:=zeroValue269
 g1:=Z
 g3:=Z
 g4:=Z}
end Go.Proofs
namespace Go.Vd
open Go.Proofs Go.RowKit
def qQ:Kq CM 42:=xC aO Z ⟨_,func42,Z,Z⟩
open Classical in
def aEu:List D->Option D
 |[.str s]=>if s.length<=1000000 then some (.tup [if AQ s=0 then .slice false [] ((splitC 47 s).map .str)else .slice true [] [],.int .i64 (AQ s)])else none
 |_=>none
def aIs{l:List Bs}{nl:Bool}{t:Id}(h:okL l):aEr [.slice nl t (l.map .str)]=some (.int .i64 (Ie l)):=by
 grind [aEr,F_]
def aRH:Kq aEu 174:=by
 obtain⟨S,j,hl⟩:=Bd (Aa qQ (Aa aRw Ad));have u:=hl 42 _ rfl;have b:=hl 242 _ rfl;clear hl;refine AK (S:=S) j (Aj func174:Fn Qf 174 17 aKP [.t 2,.t 3]) (λds r h=>?_) (λds r h=>?_)
 ·unfold aEu at h;split at h
  ·simp
  ·cases h
 ·unfold aEu at h;split at h
  ·rename_i s;split at h
   ·rename_i g;simp only[Qb]at h;subst h;unfold aKP AQ;have c:((64:Int)<(s.length:Int))=(64<s.length):=by simp only[eq_iff_iff];omega
    have d:((5:Int)=0)=False:=U
    have z:CM [.str s,.str [47]]=some (.slice false [] ((splitC 47 s).map .str)):=if_pos g;have i:=aIs (nl:=false) (t:=[]) (eX g);have y:((splitC 47 s).map D.str).all D.calm=true:=by simp[Qt];intros;rfl
    by_cases a:64<s.length
    ·simp only[↓C2,Gt,simprocAttr,c,a,d]
    ·simp only[↓C2,Gt,simprocAttr,c,a,Ab u,Ab b,z,i];refine aG (λh=>?_) (λh=>?_)<;>simp only[↓C2,Gt,simprocAttr,h,a]
   ·cases h
  ·cases h
def dX:List D->Option D
 |[.str s]=>if s.length<=1000000 then some (.int .i64 (AQ s))else none
 |_=>none
def lQ:Kq dX 107:=by
 obtain⟨S,j,hl⟩:=Bd (Aa aRH Ad);have a:=hl 174 _ rfl;clear hl;refine AK (S:=S) j (Aj func107:Fn Qf 107 11 aLz [.t 2]) (λds r h=>?_) (λds r h=>?_)
 ·unfold dX at h;split at h
  ·simp
  ·cases h
 ·unfold dX at h;split at h
  ·rename_i s;split at h
   ·rename_i g;simp only[Qb]at h;subst h;have z:aEu [.str s]=some (.tup [if AQ s=0 then .slice false [] ((splitC 47 s).map .str)else .slice true [] [],.int .i64 (AQ s)]):=by
     simp only[aEu,if_pos g]
    unfold aLz;simp only[↓C2,Gt,simprocAttr,Ab a,z]
   ·cases h
  ·cases h
def aLv:=y0 f161 [] []
def aKO:=y0 f54 [] []
def aKC:=y0 f109 [] []
def aLA:=y0 f106 [] []
def aKQ:=y0 f173 [] []
def aKF:=y0 f105 [] []
def BQ(s t:Bs):Bool:=decide (s.take t.length=t)
def WO{s t:Bs}(h:BQ s t=true):t.length<=s.length:=by
 grind [BQ]
def Ci(s z:Bs):Bool:=if z=[]then decide (s≠[])else BQ s z&&BQ (s.drop z.length) [47]
def Cz(s z:Bs):Bool:=decide (s=z)||Ci s z
def CO(s z:Bs):Bs:=if z=[]then s else if BQ s z=true then(if BQ (s.drop z.length) [47]=true then(s.drop z.length).drop 1 else s.drop z.length)else []
def vG:List D->Option D
 |[.str s,.str t]=>some (.bool (BQ s t))
 |_=>none
def aJg:Kq vG 105:=by
 refine AK (S:=λ_=>none) A2 (Aj func105:Fn Qf 105 18 aKF [.t 4]) (λds r h=>?_) (λds r h=>?_)
 ·unfold vG at h;split at h
  ·simp
  ·cases h
 ·unfold vG at h;split at h
  ·rename_i s t;simp only[Qb]at h;subst h;unfold aKF;have c1:((t.length:Int)<=(s.length:Int))=(t.length<=s.length):=by simp only[eq_iff_iff];omega
   have u:((0:Int)<=(t.length:Int))=True:=eq_true O;by_cases hl:t.length<=s.length
   ·simp only[↓C2,Gt,simprocAttr,c1,u,hl,Qj,Qw,QB,and_self];simp[BQ]
   ·simp only[↓C2,Gt,simprocAttr,c1,hl];have:BQ s t=false:=by rw[Bool.eq_false_iff];intro h;exact hl (WO h)
    simp[this]
  ·cases h
def aIw:List D->Option D
 |[.str s,.str t]=>some (.tup [.str (if BQ s t=true then s.drop t.length else s),.bool (BQ s t)])
 |_=>none
def aRI:Kq aIw 173:=by
 obtain⟨S,j,hl⟩:=Bd (Aa aJg Ad);have a:=hl 105 _ rfl;clear hl;refine AK (S:=S) j (Aj func173:Fn Qf 173 15 aKQ [.t 4,.t 5]) (λds r h=>?_) (λds r h=>?_)
 ·unfold aIw at h;split at h
  ·simp
  ·cases h
 ·unfold aIw at h;split at h
  ·rename_i s t;simp only[Qb]at h;subst h;unfold aKQ;have c1:((t.length:Int)<=(s.length:Int))=(t.length<=s.length):=by simp only[eq_iff_iff];omega
   have u:((0:Int)<=(t.length:Int))=True:=eq_true O;have z:vG [.str s,.str t]=some (.bool (BQ s t)):=rfl;cases hp:BQ s t with
   |false=>simp only[↓C2,Gt,simprocAttr,Ab a,z,hp]
   |true=>
    have hl:=WO hp;have e:(s.drop t.length).take (s.length-t.length)=s.drop t.length:=Q9 U;simp only[↓C2,Gt,simprocAttr,Ab a,z,hp,c1,u,hl,Qj,and_self,e]
  ·cases h
def vK:List D->Option D
 |[.str s,.str t]=>some (.tup [.str (if BQ s t=true then s.drop t.length else s),.bool (BQ s t)])
 |_=>none
def aJo:Kq vK 106:=by
 obtain⟨S,j,hl⟩:=Bd (Aa aRI Ad);have a:=hl 173 _ rfl;clear hl;refine AK (S:=S) j (Aj func106:Fn Qf 106 11 aLA [.t 4,.t 5]) (λds r h=>?_) (λds r h=>?_)
 ·unfold vK at h;split at h
  ·simp
  ·cases h
 ·unfold vK at h;split at h
  ·rename_i s t;simp only[Qb]at h;subst h;unfold aLA;have z:aIw [.str s,.str t]=some (.tup [.str (if BQ s t=true then s.drop t.length else s),.bool (BQ s t)]):=rfl;simp only[↓C2,Gt,simprocAttr,Ab a,z]
  ·cases h
def vF:List D->Option D
 |[.str s,.str t]=>some (.tup [.str (CO s t),.bool (Ci s t)])
 |_=>none
def aJe:Kq vF 109:=by
 obtain⟨S,j,hl⟩:=Bd (Aa aJo Ad);have a:=hl 106 _ rfl;clear hl;refine AK (S:=S) j (Aj func109:Fn Qf 109 25 aKC [.t 4,.t 5]) (λds r h=>?_) (λds r h=>?_)
 ·unfold vF at h;split at h
  ·simp
  ·cases h
 ·unfold vF at h;split at h
  ·rename_i s t;simp only[Qb]at h;subst h;unfold aKC;have z:∀s t,vK [.str s,.str t]=some (.tup [.str (if BQ s t=true then s.drop t.length else s),.bool (BQ s t)]):=λ_ _=>rfl
   unfold CO Ci;by_cases u:t=[]
   ·have b:(t=[])=True:=eq_true u;simp only[↓C2,Gt,simprocAttr,b]
    try simp
   ·have b:(t=[])=False:=eq_false u;cases h1:BQ s t with
    |false=>simp only[↓C2,Gt,simprocAttr,b,Ab a,z,h1,Za]
    |true=>
     cases h2:BQ (s.drop t.length) [47]with
     |false=>simp only[↓C2,Gt,simprocAttr,b,Ab a,z,h1,h2]
     |true=>simp only[↓C2,Gt,simprocAttr,b,Ab a,z,h1,h2,Qh,Qk]
  ·cases h
def vH:List D->Option D
 |[.str s,.str t]=>some (.bool (Ci s t))
 |_=>none
def aJi:Kq vH 54:=by
 obtain⟨S,j,hl⟩:=Bd (Aa aJe Ad);have a:=hl 109 _ rfl;clear hl;refine AK (S:=S) j (Aj func54:Fn Qf 54 14 aKO [.t 4]) (λds r h=>?_) (λds r h=>?_)
 ·unfold vH at h;split at h
  ·simp
  ·cases h
 ·unfold vH at h;split at h
  ·rename_i s t;simp only[Qb]at h;subst h;unfold aKO;have z:vF [.str s,.str t]=some (.tup [.str (CO s t),.bool (Ci s t)]):=rfl;simp only[↓C2,Gt,simprocAttr,Ab a,z]
  ·cases h
def vJ:List D->Option D
 |[.str s,.str t]=>some (.bool (Cz s t))
 |_=>none
def aJn:Kq vJ 161:=by
 obtain⟨S,j,hl⟩:=Bd (Aa aJi Ad);have d:=hl 54 _ rfl;clear hl;refine AK (S:=S) j (Aj func161:Fn Qf 161 13 aLv [.t 4]) (λds r h=>?_) (λds r h=>?_)
 ·unfold vJ at h;split at h
  ·simp
  ·cases h
 ·unfold vJ at h;split at h
  ·rename_i s t;simp only[Qb]at h;subst h;unfold aLv;have z:vH [.str s,.str t]=some (.bool (Ci s t)):=rfl;unfold Cz;by_cases g:s=t
   ·have x:(s=t)=True:=eq_true g;simp only[↓C2,Gt,simprocAttr,x]
    try simp
   ·have x:(s=t)=False:=eq_false g;simp only[↓C2,Gt,simprocAttr,x,Ab d,z]
    try simp
  ·cases h
def aUm:=y0 f264 [] []
def OC:=y1 f108 4 [] []
def aLy:=y0 f108 [] [(4,OC)]
def aTY:=y0 f53 [] []
def aLr:=y0 f199 [] []
def aKL:=y0 f239 [] []
def aUj:=y0 f291 [] []
def aKn:=y0 f292 [] []
def aGM:=y1 f321 2 [] []
def aUh:=y0 f321 [] [(2,aGM)]
def OB:=y1 f168 4 [] []
def aLq:=y0 f168 [] [(4,OB)]
def aT0:=y0 f41 [] []
def OD:=y1 f94 3 [] []
def aLB:=y0 f94 [] [(3,OD)]
def OE:=y1 f93 3 [] []
def aLC:=y0 f93 [] [(3,OE)]
def aLp:=y0 f307 [] []
def OK:=y1 f254 7 [(9,[(6,2)])] []
def OJ:=y1 f254 4 [] [(7,OK)]
def aMc:=y0 f254 [] [(4,OJ)]
def Io(op:Int):Int:=if op=9∨op=14∨op=18 then 1 else if op=10∨op=15 then 2 else if op=11∨op=12 then 4 else if op=13∨op=16 then 8 else if op=17 then 16 else if 3<=op∧op<=8 then 32 else 0
def DN(op:Int):Bool:=decide (4<=op∧op<=18∧op≠9∧op≠14∧op≠17)
def F27:List D->Option D
 |[.int .u8 op]=>some (.int .u8 (Io op))
 |_=>none
def aVT:Kq F27 264:=by
 refine AK (S:=λ_=>none) A2 (Aj func264:Fn Qf 264 26 aUm [.t 2]) (λds r h=>?_) (λds r h=>?_)
 ·unfold F27 at h;split at h
  ·simp
  ·cases h
 ·unfold F27 at h;split at h
  ·rename_i op;simp only[Qb]at h;subst h;unfold aUm;simp only[↓C2,Gy,simprocAttr]
   repeat' (first|(refine aG (λh=>?_) (λh=>?_)<;>try (exfalso;omega))|(simp only[↓C2,Gt,simprocAttr,h]))
   all_goals (first|rfl|(rw[D.int.injEq];refine⟨rfl,?_⟩;unfold Io;(repeat' split)<;>first|rfl|(exfalso;omega)))
  ·cases h
def DI(c:Int):Bool:=decide (97<=c∧c<=122)||decide (48<=c∧c<=57)
def L3(s:Bs):Nat->Nat->Bool
 |0,_=>true
 |f+1,p=>if p<s.length then DI (GP s p)&&L3 s f (p+1)else true
def BI(s:Bs):Bool:=decide (1<=s.length)&&decide (s.length<=8)&&L3 s s.length 0
def aBt(s:Bs)(p:Nat)(y:p<s.length):DI ((Utf8.decode ⟨s.toArray⟩ p).1:Nat)=DI (GP s p)∧(DI (GP s p)=true->(Utf8.decode ⟨s.toArray⟩ p).2=1):=by
 have r:=P_ s p;by_cases h:GP s p<128
 ·have:Utf8.decode ⟨s.toArray⟩ p=(GP s p,1):=by
   unfold Utf8.decode;simp only[Nc,Q8,h,if_true]
  rw[this];exact⟨rfl,λ_=>rfl⟩
 ·have u:DI (GP s p)=false:=by simp[DI];omega
  have z:128<=(Utf8.decode ⟨s.toArray⟩ p).1:=by
   unfold Utf8.decode;simp only[Nc,Q8,h,if_false]
   (repeat' split)<;>simp_all [Utf8.runeError]<;>omega
  refine⟨?_,λe=>by rw[u]at e;cases e⟩;rw[u];simp[DI];omega
def aGa{S:Gq}{ns i:Id}{s:Bs}{Q:Ex->St->Prop}{e:Bool}(o:∀y,e=false->y.s 2= .bool false->Q .ret y)(j:∀y,e=true->Q (.exit 0) y):
  ∀(f p:Nat) y g,s.length<=p+f->L3 s f p=e->y.s 13= .itp i->y.m i 1=some (.it s p)->A5 S ns OC Q y g:=by
 intro f;induction f with
 |zero=>
  intro p y g b d q k;refine Af OC.eq_1 ?_;have:¬(p<s.length):=O
  simp only[↓C2,Gy,GI,simprocAttr,k,q,this];exact j _ d.symm
 |succ f ih=>
  intro p y g b d q k;refine Af OC.eq_1 ?_;unfold L3 at d;by_cases r:p<s.length
  ·rw[if_pos r]at d;obtain⟨v,z⟩:=aBt s p r;cases ho:DI (GP s p)with
   |true=>
    rw[ho,ZG]at d;have w:=z ho;rw[ho]at v;have a:(97<=((Utf8.decode ⟨s.toArray⟩ p).1:Int)∧((Utf8.decode ⟨s.toArray⟩ p).1:Int)<=122)∨(48<=((Utf8.decode ⟨s.toArray⟩ p).1:Int)∧((Utf8.decode ⟨s.toArray⟩ p).1:Int)<=57):=by simpa[DI]using v
    have t:y.m.put i 1 [.it s (p+(Utf8.decode ⟨s.toArray⟩ p).2)] i 1=some (.it s (p+1)):=by rw[DO,if_pos ⟨rfl,rfl⟩,w]
    simp only[↓C2,Gy,GI,simprocAttr,k,q,r]
    repeat' (first|(refine aG (λh=>?_) (λh=>?_)<;>try (exfalso;omega))|(simp only[↓C2,Gy,GI,simprocAttr,h]))
    all_goals (first|exact ih _ _ _ O d q t|(exfalso;omega))
   |false=>
    rw[ho,Za]at d;rw[ho]at v;have a:¬((97<=((Utf8.decode ⟨s.toArray⟩ p).1:Int)∧((Utf8.decode ⟨s.toArray⟩ p).1:Int)<=122)∨(48<=((Utf8.decode ⟨s.toArray⟩ p).1:Int)∧((Utf8.decode ⟨s.toArray⟩ p).1:Int)<=57)):=by
     grind [DI]
    simp only[↓C2,Gy,GI,simprocAttr,k,q,r]
    repeat' (first|(refine aG (λh=>?_) (λh=>?_)<;>try (exfalso;omega))|(simp only[↓C2,Gy,GI,simprocAttr,h]))
    all_goals (first|exact o _ d.symm rfl|(exfalso;omega))
  ·rw[if_neg r]at d;simp only[↓C2,Gy,GI,simprocAttr,k,q,r];exact j _ d.symm
def aIH:List D->Option D
 |[.str s]=>some (.bool (BI s))
 |_=>none
def aRX:Kq aIH 108:=by
 refine AK (S:=λ_=>none) A2 (Aj func108:Fn Qf 108 31 aLy [.t 2]) (λds r h=>?_) (λds r h=>?_)
 ·unfold aIH at h;split at h
  ·simp
  ·cases h
 ·unfold aIH at h;split at h
  ·rename_i s;simp only[Qb]at h;subst h;unfold aLy;unfold BI;have c1:((8:Int)<(s.length:Int))=(8<s.length):=by simp only[eq_iff_iff];omega
   by_cases f:s=[]
   ·subst f;simp only[↓C2,Gt,simprocAttr]
    try simp
   ·have x:(s=[])=False:=eq_false f;have hl:1<=s.length:=by cases s with|nil=>exact absurd rfl f|cons _ _=>simp
    by_cases k:8<s.length
    ·simp only[↓C2,Gt,simprocAttr,x,c1,k];simp;omega
    ·simp only[↓C2,Gy,GI,simprocAttr,x,c1,k];have w:(decide (1<=s.length)&&decide (s.length<=8)&&L3 s s.length 0)=L3 s s.length 0:=by simp;omega
     rw[w];refine aGa (e:=L3 s s.length 0) (λy u z=>?_) (λy u=>?_) s.length 0 _ _ O rfl rfl Ya
     ·simp only[↓C2,Gt,u,z]
     ·simp only[↓C2,Gt,reduceIte,Qe,u]
  ·cases h
theorem Ah{m:Gu}{i v:Id}{o o':Nat}{ds:List D}:m.put i o ds v o'=if v=i∧o<=o'∧o'<o+ds.length then ds[o'-o]? else m v o':=rfl
def Au{m:Gu}{i:Id}{o:Nat}:Ag m i o 0=some []:=rfl
def Av{m:Gu}{i:Id}{o n:Nat}:Ag m i o (n+1)=(m i o).bind λd=>(Ag m i (o+1) n).map (d::·):=by
 show(match m i o with|some d=>_|none=>none)=_;cases m i o<;>rfl
def Be{s:Nat->D}{m:Gu}{k:Option Nat}{a:Nat}:CH [.cell k a] s m=WC m k (s a):=by
 simp only[CH,Hm,RV.of];cases WC m k (s a)<;>rfl
def AT{m:Gu}{n:Nat}{i:Id}{o:Nat}:WC m (some n) (.ptr i o)=(Ag m i o n).map .agg:=rfl
def BX(k:Int)(name:Bs)(n:Int):Int:=
 if k=1 then(if n=0∧AQ name=0 then 0 else 2)else if k=2 then(if 1<=n∧n<=30∧AQ name=0 then 0 else 2)else if k=3 then(if n=0∧BI name=true then 0 else 2)
 else if k=4∨k=5 then(if n=0∧name=[]then 0 else 2)else 22
def F98:List D->Option D
 |[.agg [.int .u8 k,.str name,.int .i64 n]]=>if name.length<=1000000 then some (.int .i64 (BX k name n))else none
 |_=>none
def aFR:Kq F98 53:=by
 obtain⟨S,j,hl⟩:=Bd (Aa lQ (Aa aRX Ad));have p:=hl 107 _ rfl;have d:=hl 108 _ rfl;clear hl;refine AK (S:=S) j (Aj func53:Fn Qf 53 53 aTY [.t 2]) (λds r h=>?_) (λds r h=>?_)
 ·unfold F98 at h;split at h
  ·simp
  ·cases h
 ·unfold F98 at h;split at h
  ·rename_i k name n;split at h
   ·rename_i y;simp only[Qb]at h;subst h;unfold aTY;have a:dX [.str name]=some (.int .i64 (AQ name)):=if_pos y;have c:aIH [.str name]=some (.bool (BI name)):=rfl;unfold BX;generalize AQ name=e at *;generalize BI name=b at *;simp only[↓C2,Gy,He,simprocAttr,Ah,Qx,Qw,Qh,Qk,Qm,Qg,QM,and_self]
    repeat' (first|(refine aG (λh=>?_) (λh=>?_)<;>try (exfalso;omega))|(simp only[↓C2,GJ,simprocAttr,h,Ah,Ab p,Ab d,a,c]))
    all_goals (first|rfl|(rw[D.int.injEq];refine⟨rfl,?_⟩;(repeat' split)<;>first|rfl|(exfalso;simp_all;done)|(exfalso;simp_all;omega)))
   ·cases h
  ·cases h
def aEy:List D->Option D
 |[.str s]=>if s.length<=1000000 then some (.bool (BI s))else none
 |_=>none
def aRT:Kq aEy 199:=by
 obtain⟨S,j,hl⟩:=Bd (Aa aFR Ad);have a:=hl 53 _ rfl;clear hl;refine AK (S:=S) j (Aj func199:Fn Qf 199 7 aLr [.t 2]) (λds r h=>?_) (λds r h=>?_)
 ·unfold aEy at h;split at h
  ·simp
  ·cases h
 ·unfold aEy at h;split at h
  ·rename_i s;split at h
   ·rename_i y;simp only[Qb]at h;subst h;unfold aLr;have z:F98 [.agg [.int .u8 3,.str s,.int .i64 0]]=some (.int .i64 (BX 3 s 0)):=if_pos y;have e:BX 3 s 0=if BI s=true then 0 else 2:=by simp[BX]
    simp only[↓C2,Gt,simprocAttr,E4,Qz,Qu,QE,QB,Zd,Q_,and_self,B7,Ab a,z,e,Qh,Qk,Qm,and_self];cases BI s<;>simp
   ·cases h
  ·cases h
def Fp(m:Gu):List D->Option D
 |[]=>some .junk
 |[.ptr i 0]=>m i 0
 |_=>none
def aGW:List D->List Loc
 |[.ptr i 0]=>[(i,0)]
 |_=>[]
theorem PV{m m':Gu}{caps:List D}(h:∀l∈aGW caps,m l.1 l.2=m' l.1 l.2):Fp m caps=Fp m' caps:=by
 unfold Fp;split
 ·rfl
 ·simp_all [aGW]
 ·rfl
def Im(F:D->D->Option D):G_ where
 rd:=λds _=>aGW ds.tail
 ex:=λds m _=>match ds with
  |x::caps=>(Fp m caps).bind λc=>(F c x).map λd=>(d,[])
  |[]=>none
def Fd:List (Option D)->Option (List Bool)
 |[]=>some []
 |some (.bool b)::r=>(Fd r).map (b::·)
 |_=>none
def A9(l:List Bool):Int:=match l.findIdx? id with
 |some k=>k
 |none=>-1
def Gg(l:List Bool):decide (0<=A9 l)=l.any id:=by
 grind [A9]
def mS:Option Nat->D->Bool
 |none,.agg _=>false
 |none,_=>true
 |some n,.agg cs=>cs.length==n
 |some _,_=>false
def fnR(ds:List D):List Loc:=match ds with
 |[_,.fn _ caps]=>aGW caps
 |_=>[]
def Fl(g:FuncId)(k:Option Nat)(F:D->D->Option D):G_ where
 rd:=λds _=>fnR ds
 ex:=λds m _=>match ds with
  |[.slice _ _ xs,.fn g' caps]=>if g'=g∧xs.length<=1000000∧xs.all (mS k)=true then(Fp m caps).bind λc=>(Fd (xs.map (F c))).map λbs=>(.int .i64 (A9 bs),[])else none
  |_=>none
def eC(g:FuncId)(k:Option Nat)(F:D->D->Option D):G_ where
 rd:=λds _=>fnR ds
 ex:=λds m _=>match ds with
  |[.slice _ _ xs,.fn g' caps]=>if g'=g∧xs.length<=1000000∧xs.all (mS k)=true then(Fp m caps).bind λc=>(Fd (xs.map (F c))).map λbs=>(.bool (bs.any id),[])else none
  |_=>none
def aGH(sz:Nat)(k:Option Nat):DC:=(.seq (.row [⟨some 9,.bin .lss (.t 8) (.t 7),[],none⟩]) (.seq (.cond (.t 9) .skip (.exit 0)) (.seq (.block 1 (.seq (.row [⟨some 10,.mv (.t 8),[],none⟩,⟨some 5,.mv (.t 10),[],none⟩]) (.seq (.row [⟨some 11,.mv (.t 1),[],none⟩,⟨some 12,.mv (.t 0),[],none⟩,⟨some 13,.mv (.t 5),[],none⟩,⟨some 14,.iaddr sz (.t 12) (.t 13),[],none⟩,⟨some 15,.load k (.t 14),[],none⟩,⟨some 16,.call (.t 11) [(.t 15)],[],none⟩]) (.cond (.t 16) (.seq (.row [⟨some 17,.mv (.t 5),[],none⟩,⟨some 4,.mv (.t 17),[],none⟩]) .ret) .skip)))) (.row [⟨some 18,.bin .add (.t 8) (.c (.int .i64 1)),[],none⟩,⟨some 8,.mv (.t 18),[],none⟩]))))
def dcI(sz:Nat)(k:Option Nat):DC:=(.seq (.row [⟨some 4,.mv (.c (.int .i64 0)),[],none⟩]) (.seq (.seq (.row [⟨some 6,.mv (.t 0),[],none⟩,⟨some 7,.len false (.t 6),[],none⟩,⟨some 8,.mv (.c (.int .i64 0)),[],none⟩]) (.block 0 (.loop (aGH sz k)))) (.seq (.row [⟨some 4,.mv (.c (.int .i64 (-1))),[],none⟩]) .ret)))
def aGI(f:FuncId):DC:=(.seq (.row [⟨some 4,.mv (.c (.bool false)),[],none⟩]) (.seq (.row [⟨some 5,.mv (.t 0),[],none⟩,⟨some 6,.mv (.t 1),[],none⟩,⟨some 7,.call (.c (.fn f [])) [(.t 5),(.t 6)],[],none⟩,⟨some 8,.bin .geq (.t 7) (.c (.int .i64 0)),[],none⟩,⟨some 4,.mv (.t 8),[],none⟩]) .ret))
def aNk(sz:Nat):Option Nat->Prop
 |none=>sz=1
 |some n=>sz=n
def aOX{sz:Nat}{k:Option Nat}(h:aNk sz k){x:D}(q:mS k x=true):x.cells.length=sz:=by
 cases k with
 |none=>cases x<;>first|(cases q;done)|exact h.symm
 |some n=>cases x<;>first|(cases q;done)|(simp only[mS,beq_iff_eq]at q;exact q.trans h.symm)
def aBh{m:Gu}{k:Option Nat}{x:D}{K:D->GA->Prop}{t:Tag (m,K)}(q:mS k x=true):Ps k (.eptr x.cells) m K t=K x []:=by
 cases k with
 |none=>cases x<;>first|(cases q;done)|(simp only[Pr,D.cells,QP,AZ])
 |some n=>
  cases x<;>first|(cases q;done)|skip
  rename_i cs;simp only[mS,beq_iff_eq]at q;subst q;simp only[NL,D.cells,QA,S8,Zp]
def Mw:∀{l:List (Option D)} {bs:List Bool},Fd l=some bs->l=bs.map λb=>some (.bool b)
 |[],bs,h=>by simp only[Fd,Qb]at h;subst h;rfl
 |x::r,bs,h=>by
  unfold Fd at h;split at h
  ·rename_i e;cases e
  ·rename_i b f e;cases e;rw[Ql]at h;obtain⟨a,u,rfl⟩:=h;rw[Mw u];rfl
  ·cases h
def aSM{S:Gq}{ns:Id}{sz:Nat}{k:Option Nat}{g:FuncId}{F:D->D->Option D}{xs caps:List D}{c:D}{bs:List Bool}{nl:Bool}{t:Id}{m:Gu}{Q:Ex->St->Prop}(ja:aNk sz k)(hg:S g=some (Im F))(o:xs.length<=1000000)(w:xs.all (mS k)=true)
  (ma:Fp m caps=some c) (la:xs.map (F c)=bs.map λb=>some (.bool b))
  (pa:∀(j:Nat) y,y.m=m->bs.findIdx? id=some j->y.s 4= .int .i64 (j:Int)->Q .ret y) (x:∀y,y.m=m->bs.findIdx? id=none->Q (.exit 0) y):
  ∀(n j:Nat) y tg,n=xs.length-j->j<=xs.length->(∀i,i<j->bs[i]?=some false)->y.m=m->y.s 8= .int .i64 (j:Int)->y.s 7= .int .i64 (xs.length:Int)->y.s 0= .slice nl t xs->y.s 1= .fn g caps->A5 S ns (aGH sz k) Q y tg:=by
 intro n;have v:bs.length=xs.length:=by simpa using (congrArg ZQ la).symm
 induction n with
 |zero=>
  intro j y tg a hj ia hm h8 h7 f u;refine Af (aGH.eq_1 sz k) ?_;have:¬((j:Int)<xs.length):=O
  simp only[↓C2,Gy,GI,reduceIte,Qe,h8,h7,this];refine x _ hm (Zl.2 λb ta=>?_);obtain⟨i,hi,rfl⟩:=QW ta;have:=ia i O;rw[Qc hi]at this;simpa using QF this
 |succ n ih=>
  intro j y tg a hj ia hm h8 h7 f u;refine Af (aGH.eq_1 sz k) ?_;have wa:j<xs.length:=O
  have r:((j:Int)<xs.length):=O
  have oa:=nJ (j:=j);have q:xs[j]?=some xs[j]:=Qc wa;have d:mS k xs[j]=true:=Qt.1 w _ (Ze wa);have na:=aOX ja d;have hw:=wJ (j:=j) O;obtain⟨ka,p,da⟩:=y;simp only at hm h8 h7 f u;subst hm;have hF:F c xs[j]=some (.bool (bs[j]' O)):=by
   have e:=congrArg (·[j]?) la;simp only[QN,q,QO,Qc (show j<bs.length by omega)]at e;exact QF e
  have z:∀fr,(Im F).ex (xs[j]::caps) p fr=some (.bool (bs[j]' O),[]):=by
   grind [Im]
  simp only[↓C2,Gy,GI,simprocAttr,h8,h7,f,u,r,oa,Qj,q,na,aBh d,AD hg,z];cases hbj:bs[j]' O with
  |true=>
   simp only[↓C2,Gy,simprocAttr];refine pa j _ rfl ?_ rfl;rw[QT];refine⟨O,by simp[hbj],λi hi=>?_⟩;have:=ia i hi;rw[Qc O]at this;simp[QF this]
  |false=>
   simp only[↓C2,Gy,simprocAttr,h8,hw];refine ih (j+1) _ _ O O (λi hi=>?_) rfl rfl h7 f u;rcases Nat.lt_or_eq_of_le (Nat.le_of_lt_succ hi)with hi|rfl
   ·exact ia i hi
   ·simp_all
def SL{ds:List D}{m m':Gu}(h:∀l∈fnR ds,m l.1 l.2=m' l.1 l.2){x:D}{g:FuncId}{caps:List D}(e:ds=[x,.fn g caps]):Fp m caps=Fp m' caps:=by
 subst e;exact PV h
def Nb{P:Program}{f g:FuncId}{sz:Nat}{k:Option Nat}{F:D->D->Option D}{N:Nat}(hN:2<=N)(b:Fn P f N (dcI sz k) [.t 4])(d:aNk sz k)(a:(Im F).ok P g):(Fl g k F).ok P f:=by
 have s:Gq.ok P (Ap [(g,Im F)]):=Aa a Ad;have sg:Ap [(g,Im F)] g=some (Im F):=by simp[Ap]
 generalize Ap [(g,Im F)]=S at s sg;refine MX s b (λds m m' fr h=>?_) (λds m fr r u z _=>?_)
 ·simp only[Fl]at h ⊢;split
  ·rename_i nl t xs g' caps;rw[SL h rfl]
  ·rfl
 ·simp only[Fl]at z;split at z
  ·rename_i nl t xs g' caps;split at z
   ·rename_i p;obtain⟨rfl,hb,n⟩:=p;rw[QC]at z;obtain⟨c,ma,z⟩:=z;rw[Ql]at z;obtain⟨bs,e,z⟩:=z;simp only[Qs]at z;obtain⟨rfl,rfl⟩:=z;refine⟨hN,?_⟩;unfold dcI;simp only[↓C2,Gy,simprocAttr];refine aSM (xs:=xs) (caps:=caps) (c:=c) (bs:=bs) (nl:=nl) (t:=t) (m:=m) d sg hb n ma (Mw e) (λj y w q v=>?_) (λy w q=>?_) xs.length 0 _ _ O O U rfl rfl rfl rfl rfl
    ·simp only[↓C2,Gy,GI,v,A9,q,w];exact λi o x h=>h
    ·simp only[↓C2,Gy,GI,reduceIte,Qe,A9,q,w];exact λi o x h=>h
   ·cases z
  ·cases z
def nH{P:Program}{f h g:FuncId}{k:Option Nat}{F:D->D->Option D}{N:Nat}(p:2<=N)(b:Fn P f N (aGI h) [.t 4])(hi:(Fl g k F).ok P h):(eC g k F).ok P f:=by
 have j:Gq.ok P (Ap [(h,Fl g k F)]):=Aa hi Ad;have v:Ap [(h,Fl g k F)] h=some (Fl g k F):=by simp[Ap]
 generalize Ap [(h,Fl g k F)]=S at j v;refine MX j b (λds m m' fr h=>?_) (λds m fr r u z _=>?_)
 ·simp only[eC]at h ⊢;split
  ·rename_i nl t xs a caps;rw[SL h rfl]
  ·rfl
 ·simp only[eC]at z;split at z
  ·rename_i nl t xs a caps;split at z
   ·rename_i y;rw[QC]at z;obtain⟨c,ma,z⟩:=z;rw[Ql]at z;obtain⟨bs,e,z⟩:=z;simp only[Qs]at z;obtain⟨rfl,rfl⟩:=z;refine⟨p,?_⟩;have d:∀fr,(Fl g k F).ex [.slice nl t xs,.fn a caps] m fr=some (.int .i64 (A9 bs),[]):=by
     grind [Fl]
    unfold aGI;simp only[↓C2,Gy,GI,simprocAttr,AD v,d];exact⟨by rw[←Gg],λi o x h=>h⟩
   ·cases z
  ·cases z
def aLx:=y0 f248 [] []
def aLw:=y0 f249 [] []
def aMk:=y0 f187 [] []
def aMj:=y0 f188 [] []
def Np{S:Gq}{P:Program}{f:FuncId}{N:Nat}{g:DC}{rs:List RV}{F:D->D->Option D}(j:Gq.ok P S)(b:Fn P f N g rs)
  (v:∀x caps m fr c d,Fp m caps=some c->F c x=some d->(∀k i o,(k::fr)<:+i->m i o=none)->caps.length<=1->(caps.length+1<=N)∧g.wp S fr (DM rs λa m'=>a=d∧∀i o y,m i o=some y->m' i o=some y) ⟨Bv (x::caps),m,0⟩):(Im F).ok P f:=by
 refine MX j b (λds m m' fr h=>?_) (λds m fr r u z n=>?_)
 ·grind [Im,PV]
 ·simp only[Im]at z;split at z
  ·rename_i x caps;rw[QC]at z;obtain⟨c,e,z⟩:=z;rw[Ql]at z;obtain⟨d,p,z⟩:=z;simp only[Qs]at z;obtain⟨rfl,rfl⟩:=z;have hl:caps.length<=1:=by
    unfold Fp at e;split at e
    ·simp
    ·simp
    ·cases e
   obtain⟨q,t⟩:=v x caps m fr c d e p n hl;exact⟨q,t⟩
  ·cases z
def PU{m:Gu}{caps:List D}{p:Bs}(h:Fp m caps=some (.str p)):∃i,caps=[.ptr i 0]∧m i 0=some (.str p):=by
 unfold Fp at h;split at h
 ·cases h
 ·exact⟨_,rfl,h⟩
 ·cases h
def vA:D->D->Option D
 | .str p,.agg [.str q,.int .u8 _]=>some (.bool (decide (q=p)))
 |_,_=>none
def aEi:D->D->Option D
 | .str p,.agg [.str q,.int .i64 _,.bool _]=>some (.bool (decide (q=p)))
 |_,_=>none
def vD:D->D->Option D
 | .str p,.str q=>some (.bool (Cz p q||Cz q p))
 |_,_=>none
def aO4:(Im vA).ok Qf 292:=by
 refine Np (S:=λ_=>none) A2 (Aj func292:Fn Qf 292 9 aKn [.t 3]) (λx caps m fr c d e z n hl=>⟨O,?_⟩);unfold vA at z;split at z
 ·rename_i p q k;simp only[Qb]at z;subst z;obtain⟨i,rfl,w⟩:=PU e;have hi:i≠0::fr:=by rintro rfl;have:=n 0 (0::fr) 0 (Zq _);rw[w]at this;cases this
  unfold aKn;simp only[↓C2,Gt,simprocAttr,w,hi,Ah,Qx,Qw,Qh,Qk,Qm,Qg,and_self];intro i o y h;split
  ·grind
  ·exact h
 ·cases z
def aO8:(Im aEi).ok Qf 248:=by
 refine Np (S:=λ_=>none) A2 (Aj func248:Fn Qf 248 8 aLx [.t 3]) (λx caps m fr c d e z n hl=>⟨O,?_⟩);unfold aEi at z;split at z
 ·rename_i p q k b;simp only[Qb]at z;subst z;obtain⟨i,rfl,w⟩:=PU e;have hi:i≠0::fr:=by rintro rfl;have:=n 0 (0::fr) 0 (Zq _);rw[w]at this;cases this
  unfold aLx;simp only[↓C2,Gt,simprocAttr,w,hi,Ah,Qx,Qw,Qh,Qk,Qm,Qg,and_self];intro i o y h;split
  ·grind
  ·exact h
 ·cases z
def aO7:(Im vD).ok Qf 249:=by
 obtain⟨S,j,hl⟩:=Bd (Aa aJn Ad);have a:=hl 161 _ rfl;clear hl;refine Np (S:=S) j (Aj func249:Fn Qf 249 12 aLw [.t 3]) (λx caps m fr c d e z n hl=>⟨O,?_⟩);unfold vD at z;split at z
 ·rename_i p q;simp only[Qb]at z;subst z;obtain⟨i,rfl,w⟩:=PU e;have k:∀p q,vJ [.str p,.str q]=some (.bool (Cz p q)):=λ_ _=>rfl
  unfold aLw;cases h1:Cz p q with
  |false=>simp only[↓C2,Gt,simprocAttr,w,Ab a,k,h1];simp
  |true=>simp only[↓C2,Gt,simprocAttr,w,Ab a,k,h1];simp
 ·cases z
def aTV:Fn Qf 247 19 (dcI 3 (some 3)) [.t 4]:=⟨f247,_,func247,rfl,Z,rfl,Z,Z⟩
def aJ1:Fn Qf 181 19 (dcI 1 none) [.t 4]:=⟨f181,_,func181,rfl,Z,rfl,Z,Z⟩
def aTS:Fn Qf 293 19 (dcI 1 none) [.t 4]:=⟨f293,_,func293,rfl,Z,rfl,Z,Z⟩
def aJ5:Fn Qf 118 9 (aGI 181) [.t 4]:=⟨f118,_,func118,rfl,Z,rfl,Z,Z⟩
def aTT:Fn Qf 240 9 (aGI 293) [.t 4]:=⟨f240,_,func240,rfl,Z,rfl,Z,Z⟩
def aOK:(Fl 292 (some 2) vA).ok Qf 321:=Nb O (Aj func321:Fn Qf 321 19 aUh [.t 4]) rfl aO4
def aUt:(eC 292 (some 2) vA).ok Qf 291:=nH O (Aj func291:Fn Qf 291 9 aUj [.t 4]) aOK
def aOO:(Fl 248 (some 3) aEi).ok Qf 247:=Nb O aTV rfl aO8
def aON:(Fl 249 none vD).ok Qf 181:=Nb O aJ1 rfl aO7
def aUv:(eC 249 none vD).ok Qf 118:=nH O aJ5 aON
abbrev Rl:=Bs×Int
def rlD(r:Rl):D:= .agg [.str r.1,.int .u8 r.2]
def Ar(l:List Rl):List D:=l.map rlD
def rlT:D->Rl
 | .agg [.str q,.int .u8 k]=>(q,k)
 |_=>([],0)
def Ba(xs:List D):List Rl:=xs.map rlT
theorem AY(l:List Rl):Ba (Ar l)=l:=by
 simp only[Ba,Ar,QJ]
 conv=>rhs;rw[←ZB l]
 exact QD λr _=>rfl
def CB(l:List Rl)(j:Nat):Rl:=l.getD j ([],0)
theorem AW(l:List Rl):(Ar l).length=l.length:=Qy ..
def Oh{l:List Rl}{j:Nat}(h:j<l.length):(Ar l)[j]?=some (rlD (CB l j)):=by
 grind [Ar,CB]
def II(l:List Rl)(j:Nat):(Ar l).take j=Ar (l.take j):=(ZJ ..).symm
def xY(l:List Rl):(Ar l).all (mS (some 2))=true:=by
 rw[Qt];intro x q;obtain⟨r,_,rfl⟩:=QZ.1 q;rfl
def Sj(l:List Rl):aF (Ar l) 2=2:=XH
def wH(l:List Rl)(q:Bs):Bool:=l.any λr=>decide (r.1=q)
def Ho(r:Rl)(l:List Rl):Int:=if r.1≠[]∧AQ r.1≠0 then AQ r.1 else if 63<r.2 then 2 else if wH l r.1=true then 20 else 0
def DG(l:List Rl):Nat->Nat->Int
 |0,_=>0
 |f+1,j=>if j<l.length then(if Ho (CB l j) (l.take j)≠0 then Ho (CB l j) (l.take j)else DG l f (j+1))else 0
def Cp(l:List Rl):Int:=if 4<l.length then 24 else DG l l.length 0
def Ca(l:List Rl):Prop:=∀r∈l,r.1.length<=1000000
def V_{l:List Rl}(h:Ca l){j:Nat}(q:j<l.length):(CB l j).1.length<=1000000:=by
 have:CB l j=l[j]:=by simp[CB,Qc q]
 rw[this];exact h _ (Ze q)
def C5(bs:List Bool):Fd (bs.map λb=>some (.bool b))=some bs:=by
 induction bs with
 |nil=>rfl
 |cons b r ih=>simp only[Q0,Fd,ih,QO]
def aCs{l:List Rl}{nl:Bool}{t:Id}(hl:l.length<=1000000){q:Bs}(m:Gu)(fr i:Id)(w:m i 0=some (.str q)):
  (eC 292 (some 2) vA).ex [.slice nl t (Ar l),.fn 292 [.ptr i 0]] m fr=some (.bool (wH l q),[]):=by
 have e:(Ar l).map (vA (.str q))=(l.map λr=>decide (r.1=q)).map λb=>some (.bool b):=by
  simp only[Ar,QJ];exact QD λr _=>rfl
 simp only[eC,AW,hl,xY,and_self,if_true,Fp,w,Qi,e,C5,QO];simp only[wH,ZN];rfl
open Classical in
def aEt:List D->Option D
 |[.agg [.str q,.int .u8 k],.slice _ _ xs]=>if xs=Ar (Ba xs)∧xs.length<=1000000∧q.length<=1000000 then some (.int .i64 (Ho (q,k) (Ba xs)))else none
 |_=>none
def aRE:Kq aEt 239:=by
 obtain⟨S,j,hl⟩:=Bd (Aa lQ (Aa aUt Ad));have p:=hl 107 _ rfl;have b:=hl 291 _ rfl;clear hl;refine AK (S:=S) j (Aj func239:Fn Qf 239 21 aKL [.t 4]) (λds r h=>?_) (λds r h=>?_)
 ·unfold aEt at h;split at h
  ·simp
  ·cases h
 ·unfold aEt at h;split at h
  ·rename_i q k nl t xs;split at h
   ·rename_i y;obtain⟨d,v,s⟩:=y;simp only[Qb]at h;subst h;generalize Ba xs=l at d;subst d;rw[AW]at v;have a:dX [.str q]=some (.int .i64 (AQ q)):=if_pos s;unfold aKL Ho;generalize AQ q=e at *;simp only[↓C2,Gy,He,simprocAttr,Ah,Qx,Qw,Qh,Qk,Qm,Qg,and_self]
    repeat' (first|(refine aG (λh=>?_) (λh=>?_)<;>try (exfalso;omega))|(simp only[↓C2,GJ,simprocAttr,h,Ah,Ab p,a,AD b,aCs (q:=q) v]))
    all_goals (first|rfl|(rw[D.int.injEq];refine⟨rfl,?_⟩;(repeat' split)<;>first|rfl|(exfalso;simp_all;done)|(exfalso;simp_all;omega)))
   ·cases h
  ·cases h
open Classical in
def aIv{q:Bs}{k:Int}{nl:Bool}{t:Id}{l:List Rl}(hl:l.length<=1000000)(j:q.length<=1000000):aEt [.agg [.str q,.int .u8 k],.slice nl t (Ar l)]=some (.int .i64 (Ho (q,k) l)):=by
 have h:Ar l=Ar (Ba (Ar l))∧(Ar l).length<=1000000∧q.length<=1000000:=⟨by rw[AY],by rw[AW];exact hl,j⟩;show(if _ then _ else _)=_;rw[if_pos h,AY]
def aF9{S:Gq}{ns:Id}{l:List Rl}{nl:Bool}{t:Id}{Q:Ex->St->Prop}{e:Int}(a:S 239=some (Ac aEt))(o:l.length<=4)(hp:Ca l)
  (pa:∀y,e≠0->y.s 2= .int .i64 e->Q .ret y) (w:∀y,e=0->Q (.exit 0) y):
  ∀(f j:Nat) y g,l.length=j+f->DG l f j=e->y.s 0= .slice nl t (Ar l)->y.s 9= .slice nl t (Ar l)->y.s 10= .int .i64 (l.length:Int)->y.s 11= .int .i64 (j:Int)->A5 S ns OB Q y g:=by
 intro f;induction f with
 |zero=>
  intro j y g hf d i h9 z ma;refine Af OB.eq_1 ?_;have:¬((j:Int)<l.length):=O
  simp only[↓C2,Gy,GI,reduceIte,Qe,z,ma,this];exact w _ d.symm
 |succ f ih=>
  intro j y g hf d i h9 z ma;refine Af OB.eq_1 ?_;unfold DG at d;have hj:j<l.length:=O
  rw[if_pos hj]at d;have x:((j:Int)<l.length):=O
  have oa:=nJ (j:=j);have c:((j:Int)<=l.length):=O
  have v:=wJ (j:=j) O;have m:=Oh hj;have hq:=V_ hp hj;generalize n:CB l j=r at d m hq;obtain⟨q,k⟩:=r;have b:(Ar l)[j]?=some (.agg [.str q,.int .u8 k]):=m;have hF:=aIv (nl:=nl) (t:=[]) (l:=l.take j) (q:=q) (k:=k) Xb hq;generalize Ho (q,k) (l.take j)=e' at d hF;obtain⟨ka,p,u⟩:=y;simp only at i h9 z ma;simp only[↓C2,GJ,simprocAttr,i,h9,z,ma,x,oa,c,Qj,b,AW,Sj,II,Ab a,hF,Ah,Au,Av,Qi,Qu,Qz,Qo,QB];refine AS ?_;simp only[↓C2,Gy,He,simprocAttr,II,QB];refine aG (λh=>?_) (λh=>?_)
  ·rw[if_neg Xn]at d;simp only[↓C2,Gy,He,simprocAttr,ma,II,QB,v];exact ih (j+1) _ _ O d i h9 z rfl
  ·rw[if_pos h]at d;simp only[↓C2,Gy,He,simprocAttr,II,QB];exact pa _ (d▸h) (by rw[←d];rfl)
open Classical in
def vE:List D->Option D
 |[.slice _ _ xs]=>if xs=Ar (Ba xs)∧xs.length<=1000000∧Ca (Ba xs)then some (.int .i64 (Cp (Ba xs)))else none
 |_=>none
open Classical in
def U2{nl:Bool}{t:Id}{l:List Rl}(hl:l.length<=1000000)(y:Ca l):vE [.slice nl t (Ar l)]=some (.int .i64 (Cp l)):=by
 have h:Ar l=Ar (Ba (Ar l))∧(Ar l).length<=1000000∧Ca (Ba (Ar l)):=by rw[AY,AW];exact⟨rfl,hl,y⟩
 show(if _ then _ else _)=_;rw[if_pos h,AY]
open Classical in
theorem dT{ds:List D}{r:D}(h:vE ds=some r):∃nl t l,ds=[.slice nl t (Ar l)]∧l.length<=1000000∧Ca l∧r= .int .i64 (Cp l):=by
 unfold vE at h;split at h
 ·rename_i nl t xs;split at h
  ·rename_i y;obtain⟨u,z,i⟩:=y;simp only[Qb]at h;subst h;refine⟨nl,t,Ba xs,by rw[←u],?_,i,rfl⟩;rw[u,AW]at z;exact z
  ·cases h
 ·cases h
def V7:Kq vE 168:=by
 obtain⟨S,j,hl⟩:=Bd (Aa aRE Ad);have a:=hl 239 _ rfl;clear hl;refine AK (S:=S) j (Aj func168:Fn Qf 168 25 aLq [.t 2]) (λds r h=>?_) (λds r h=>?_)
 ·grind [dT]
 ·obtain⟨nl,t,l,rfl,hl,d,rfl⟩:=dT h;unfold aLq Cp;by_cases o:4<l.length
  ·have g:((4:Int)<l.length):=by omega
   simp only[↓C2,Gt,simprocAttr,AW,g,o]
  ·have g:¬((4:Int)<l.length):=by omega
   simp only[↓C2,Gy,GI,simprocAttr,AW,g];refine aF9 (l:=l) (nl:=nl) (t:=t) (e:=DG l l.length 0) a O d (λy u z=>?_) (λy u=>?_) l.length 0 _ _ O rfl rfl rfl rfl rfl
   ·simp only[↓C2,Gt,z];rw[if_neg o]
   ·simp only[↓C2,Gt,reduceIte,Qe,u];rw[if_neg o]
def Vp{k:IntKind}{a b:Int}:AM .andNot (.int k a) (.int k b)=some (.int k (bits .andNot k a b)):=Xm
def WP(a c:Nat):Bool:=Nat.beq (Zr c (255-a)) 0
def aVA{x:Nat}(h:x<256):IntKind.u8.wrap (x:Int)=x:=by
 simp only[IntKind.wrap,IntKind.signed,IntKind.bits,Za,QS,if_false];omega
def P1{a c:Nat}(p:a<256)(y:c<256):bits .andNot .u8 (c:Int) (a:Int)=((Zr c (255-a):Nat):Int):=by
 have u:(BitVec.ofInt 8 (c:Int)).toNat=c:=by rw[BitVec.toNat_ofInt];omega
 have z:(BitVec.ofInt 8 (a:Int)).toNat=a:=by rw[BitVec.toNat_ofInt];omega
 have i:(BitVec.ofInt 8 (c:Int)&&& ~~~ BitVec.ofInt 8 (a:Int)).toNat=Zr c (255-a):=by
  rw[BitVec.toNat_and,BitVec.toNat_not,u,z];rfl
 have o:Zr c (255-a)<=c:=Nat.and_le_left;show IntKind.u8.wrap ((BitVec.ofInt 8 (c:Int)&&& ~~~ BitVec.ofInt 8 (a:Int)).toNat:Int)=_;rw[i];generalize Zr c (255-a)=x at o;exact aVA O
structure RI (fr r:Id) (m0 m:Gu) (l:List Bs) (j:Nat):Prop where
 row:∀i,i<l.length->m r i=some (.str (if i<j then l.getD i []else []))
 out:∀i o,¬fr<:+i->m i o=m0 i o
def RI.put{fr r:Id}{m0 m:Gu}{l:List Bs}{j k o:Nat}{ds:List D}(h:RI fr r m0 m l j)(g:(k::fr)≠r):RI fr r m0 (m.put (k::fr) o ds) l j:=by
 refine⟨λi hi=>?_,λi o' c=>?_⟩
 ·rw[aA (λe=>g e.symm)];exact h.row i hi
 ·rw[aA (λe=>c Yi)];exact h.out i o' c
def RI.fill{fr r:Id}{m0 m:Gu}{l:List Bs}{j:Nat}(h:RI fr r m0 m l j)(n:fr<:+r):RI fr r m0 (m.put r j [.str (l.getD j [])]) l (j+1):=by
 refine⟨λi hi=>?_,λi o' c=>?_⟩
 ·rw[Ah];by_cases e:i=j
  ·simp_all
  ·rw[if_neg Xb,h.row i hi];by_cases z:i<j
   ·rw[if_pos z,if_pos O]
   ·rw[if_neg z,if_neg O]
 ·rw[aA (λe=>c (by rw[e];exact n))];exact h.out i o' c
theorem RI.start{fr:Id}{m:Gu}{l:List Bs}{k n:Nat}(c:n=l.length):RI fr (k::fr) m (m.put (k::fr) 0 (Q7 n (.str []))) l 0:=by
 subst c;refine⟨λi hi=>?_,λi o c=>aA (λe=>c Yi)⟩;rw[Ah,if_pos ⟨rfl,O,by simp;exact hi⟩,if_neg O];simp[hi]
def RI.fin{fr r:Id}{m0 m:Gu}{l:List Bs}(h:RI fr r m0 m l l.length)(k:∀i o,fr<:+i->m0 i o=none):
  (∀(j:Nat) x,(l.map D.str)[j]?=some x->m r j=some x)∧∀i o x,m0 i o=some x->m i o=some x:=by
 refine⟨λj x q=>?_,λi o x q=>?_⟩
 ·have t:j<l.length:=by have:=(Qq.1 q).1;simpa using this
  rw[h.row j t,if_pos t];simp[t]at q;simp[t,q]
 ·rw[h.out i o (λg=>by rw[k i o g]at q;cases q)];exact q
def TB(F:List D->Option (List Bs)):G_ where
 rd:=λ_ _=>[]
 ex:=λds _ _=>(F ds).map λl=>(.slice false [] (l.map .str),[])
def lI{S:Gq}{P:Program}{f:FuncId}{N:Nat}{v:DC}{rs:List RV}{F:List D->Option (List Bs)}(j:Gq.ok P S)(k:Fn P f N v rs)
  (za:∀ds l m fr,F ds=some l->(∀i o,fr<:+i->m i o=none)->ds.length<=N∧v.wp S fr (DM rs λd m'=>∃i,d= .row i l.length∧fr<:+i∧RI fr i m m' l l.length) ⟨Bv ds,m,0⟩):(TB F).ok P f:=by
 refine aFN j k (λ_ _ _ _ _=>rfl) (λds m fr r u z w=>?_);simp only[TB,Ql,Qs]at z;obtain⟨l,hl,rfl,rfl⟩:=z;obtain⟨q,t⟩:=za ds l m fr hl w;refine⟨q,U,l.map .str,rfl,?_,?_⟩
 ·intro x n;obtain⟨s,_,rfl⟩:=QZ.1 n;exact⟨rfl,rfl⟩
 ·refine LB t (λe p h=>?_);obtain⟨a,d,hd,i,b,g,c⟩:=h;exact⟨a,d,hd,i,XU,g,(c.fin w).1,λi o x n=>(c.fin w).2 i o x n⟩
open Classical in
def aEA:List D->Option (List Bs)
 |[.slice _ _ xs]=>if xs=Ar (Ba xs)∧xs.length<=1000000 then some ((Ba xs).map (·.1))else none
 |_=>none
open Classical in
theorem aII{nl:Bool}{t:Id}{l:List Rl}(hl:l.length<=1000000):aEA [.slice nl t (Ar l)]=some (l.map (·.1)):=by
 have h:Ar l=Ar (Ba (Ar l))∧(Ar l).length<=1000000:=by rw[AY,AW];exact⟨rfl,hl⟩
 show(if _ then _ else _)=_;rw[if_pos h,AY]
open Classical in
def aEz{ds:List D}{r:List Bs}(h:aEA ds=some r):∃nl t l,ds=[.slice nl t (Ar l)]∧l.length<=1000000∧r=l.map (·.1):=by
 unfold aEA at h;split at h
 ·rename_i nl t xs;split at h
  ·rename_i y;obtain⟨u,z⟩:=y;simp only[Qb]at h;subst h;refine⟨nl,t,Ba xs,by rw[←u],?_,rfl⟩;rw[u,AW]at z;exact z
  ·cases h
 ·cases h
def aGb{S:Gq}{fr:Id}{l:List Rl}{nl:Bool}{t:Id}{m0:Gu}{k:Nat}{Q:Ex->St->Prop}(o:l.length<=1000000)
  (w:∀y,y.s 3= .row (k::fr) l.length->RI fr (k::fr) m0 y.m (l.map (·.1)) l.length->Q (.exit 0) y):
  ∀(f j:Nat) y g,l.length=j+f->k<y.c->y.s 3= .row (k::fr) l.length->y.s 9= .slice nl t (Ar l)->y.s 10= .int .i64 (l.length:Int)->y.s 11= .int .i64 (j:Int)->RI fr (k::fr) m0 y.m (l.map (·.1)) j->A5 S fr OD Q y g:=by
 intro f;induction f with
 |zero=>
  intro j y g b p i h9 z e I;refine Af OD.eq_1 ?_;have:¬((j:Int)<l.length):=O
  simp only[↓C2,Gy,GI,reduceIte,Qe,z,e,this];exact w _ i X2
 |succ f ih=>
  intro j y g b p i h9 z e I;refine Af OD.eq_1 ?_;have q:j<l.length:=O
  have ea:((j:Int)<l.length):=O
  have oa:=nJ (j:=j);have hw:=wJ (j:=j) O;have d:(Ar l)[j]?=some (.agg [.str (CB l j).1,.int .u8 (CB l j).2]):=Oh q;have hg:(l.map (·.1)).getD j []=(CB l j).1:=by simp[CB,Qc q]
  generalize CB l j=r at d hg;have x:((y.c+1+3)::fr=k::fr)=False:=eq_false Xb;have v:(k::fr=(y.c+1+3)::fr)=False:=eq_false Xb;have n:=I.row j Xu;rw[if_neg O]at n;obtain⟨a,fa,u⟩:=y;simp only at i h9 z e p x v n I;simp only[↓C2,GJ,reduceIte,Qd,Qe,i,h9,z,e,ea,oa,hw,Qj,d,v,n,QA,false_and,Ah,Au,Av,QL,Qi,Qu,Qz,Qo];refine ih (j+1) _ _ O Xa i h9 z rfl ?_;rw[←hg];exact((I.put Xb).put Xb).fill (QI _ _)
def aRY:(TB aEA).ok Qf 94:=by
 refine lI (S:=λ_=>none) A2 (Aj func94:Fn Qf 94 23 aLB [.t 2]) (λds r m fr h n=>?_);obtain⟨nl,t,l,rfl,hl,rfl⟩:=aEz h;refine⟨U,?_⟩;have z:((0:Int)<=(l.length:Int)):=O
 have x:((l.length:Int)*(((16:Nat):Int)+1)<=140737488355328)=True:=eq_true O;unfold aLB;simp only[↓C2,Gy,He,reduceIte,Qd,Qe,z,x,AW,Qj,ZC,Qh,Qk,Qm,and_self];refine aGb (l:=l) (nl:=nl) (t:=t) (m0:=m) (k:=3) hl (λy u v=>?_) l.length 0 _ _ O Xa rfl rfl rfl rfl ?_
 ·simp only[↓C2,Gy,reduceIte,Qd,Qe,u,Qy];exact⟨_,rfl,QI _ _,v⟩
 ·exact RI.start U
def NK(s:Bs)(l:List Bs):Nat->Nat->Int->Int->Int
 |0,_,b,_=>b
 |f+1,j,b,n=>if n<((l.getD j []).length:Int)∧Cz s (l.getD j [])=true then NK s l f (j+1) j (l.getD j []).length else NK s l f (j+1) b n
def Hr(s:Bs)(l:List Bs):Int:=NK s l l.length 0 (-1) (-1)
def aGc{S:Gq}{ns:Id}{s:Bs}{l:List Bs}{nl:Bool}{t:Id}{Q:Ex->St->Prop}{e:Int}(a:S 161=some (Ac vJ))(o:l.length<=1000000)
  (w:∀y,y.s 5= .int .i64 e->Q (.exit 0) y):
  ∀(f j:Nat)(b n:Int) y g,l.length=j+f->NK s l f j b n=e->y.s 0= .str s->y.s 5= .int .i64 b->y.s 6= .int .i64 n->y.s 9= .slice nl t (l.map .str)->y.s 10= .int .i64 (l.length:Int)->y.s 11= .int .i64 (j:Int)->A5 S ns OE Q y g:=by
 intro f;induction f with
 |zero=>
  intro j b n y g hf d i h5 h6 h9 z ma;refine Af OE.eq_1 ?_;have:¬((j:Int)<l.length):=O
  simp only[↓C2,Gy,GI,reduceIte,Qe,z,ma,this];exact w _ (by rw[←d];exact h5)
 |succ f ih=>
  intro j b n y g hf d i h5 h6 h9 z ma;refine Af OE.eq_1 ?_;unfold NK at d;have q:j<l.length:=O
  have r:((j:Int)<l.length):=O
  have x:=nJ (j:=j);have v:=wJ (j:=j) O;have m:(l.map D.str)[j]?=some (.str (l.getD j [])):=by simp[q]
  generalize l.getD j []=p at m d;have k:vJ [.str s,.str p]=some (.bool (Cz s p)):=rfl;obtain⟨ka,fa,u⟩:=y;simp only at i h5 h6 h9 z ma;by_cases c:n<(p.length:Int)
  ·cases hp:Cz s p with
   |true=>
    rw[if_pos ⟨c,hp⟩]at d;simp only[↓C2,Gt,simprocAttr,i,h9,z,ma,h6,r,x,v,Qj,m,Ab a,k,Qh,Qk,Qm,QP,c,hp];exact ih (j+1) _ _ _ _ O d i rfl rfl h9 z rfl
   |false=>
    rw[if_neg (by rw[hp];simp)]at d;simp only[↓C2,Gt,simprocAttr,i,h9,z,ma,h6,r,x,v,Qj,m,Ab a,k,Qh,Qk,Qm,QP,c,hp];exact ih (j+1) _ _ _ _ O d i h5 h6 h9 z rfl
  ·rw[if_neg (λh=>c h.1)]at d;simp only[↓C2,Gt,simprocAttr,h9,z,ma,h6,r,x,v,Qj,m,Qh,Qk,Qm,QP,c];exact ih (j+1) _ _ _ _ O d i h5 h6 h9 z rfl
def vL:List D->Option D
 |[.str s,.slice _ _ xs]=>(F4 xs).bind λl=>if l.length<=1000000 then some (.int .i64 (Hr s l))else none
 |_=>none
def aIJ{s:Bs}{nl:Bool}{t:Id}{l:List Bs}(hl:l.length<=1000000):vL [.str s,.slice nl t (l.map .str)]=some (.int .i64 (Hr s l)):=by
 grind [vL,F_]
def aRZ:Kq vL 93:=by
 obtain⟨S,j,hl⟩:=Bd (Aa aJn Ad);have a:=hl 161 _ rfl;clear hl;refine AK (S:=S) j (Aj func93:Fn Qf 93 30 aLC [.t 4]) (λds r h=>?_) (λds r h=>?_)
 ·unfold vL at h;split at h
  ·simp
  ·cases h
 ·unfold vL at h;split at h
  ·rename_i s nl t xs;rw[QC]at h;obtain⟨l,g,h⟩:=h;obtain rfl:=EX g;split at h
   ·rename_i hl;simp only[Qb]at h;subst h;unfold aLC;simp only[↓C2,Gy,simprocAttr,Qy];refine aGc (s:=s) (l:=l) (nl:=nl) (t:=t) (e:=Hr s l) a hl (λy u=>?_) l.length 0 _ _ _ _ O rfl rfl rfl rfl rfl rfl rfl;simp only[↓C2,Gt,simprocAttr,u]
   ·cases h
  ·cases h
def C0(l:List Rl)(s:Bs):Int:=if Hr s (l.map (·.1))<0 then 0 else(CB l (Hr s (l.map (·.1))).toNat).2
def Pq(s:Bs)(l:List Bs):∀(f j:Nat)(b n:Int),l.length=j+f->b<l.length->NK s l f j b n<l.length
 |0,j,b,n,hf,hb=>by simpa[NK]using hb
 |f+1,j,b,n,hf,hb=>by
  unfold NK;split
  ·exact Pq s l f (j+1) _ _ O O
  ·exact Pq s l f (j+1) _ _ O hb
def Wy(s:Bs)(l:List Bs):Hr s l<l.length:=Pq s l _ _ _ _ O O
open Classical in
def F95:List D->Option D
 |[.slice _ _ xs,.str s]=>if xs=Ar (Ba xs)∧xs.length<=1000000 then some (.int .u8 (C0 (Ba xs) s))else none
 |_=>none
open Classical in
def kF{nl:Bool}{t:Id}{l:List Rl}{s:Bs}(hl:l.length<=1000000):F95 [.slice nl t (Ar l),.str s]=some (.int .u8 (C0 l s)):=by
 have h:Ar l=Ar (Ba (Ar l))∧(Ar l).length<=1000000:=by rw[AY,AW];exact⟨rfl,hl⟩
 show(if _ then _ else _)=_;rw[if_pos h,AY]
open Classical in
theorem pE{ds:List D}{r:D}(h:F95 ds=some r):∃nl t l s,ds=[.slice nl t (Ar l),.str s]∧l.length<=1000000∧r= .int .u8 (C0 l s):=by
 unfold F95 at h;split at h
 ·rename_i nl t xs s;split at h
  ·rename_i y;obtain⟨u,z⟩:=y;simp only[Qb]at h;subst h;refine⟨nl,t,Ba xs,s,by rw[←u],?_,rfl⟩;rw[u,AW]at z;exact z
  ·cases h
 ·cases h
def aNK:Kq F95 41:=by
 obtain⟨S,o,hl⟩:=Bd (Aa aRY (Aa aRZ Ad));have d:=hl 94 _ rfl;have c:=hl 93 _ rfl;clear hl;refine AK (S:=S) o (Aj func41:Fn Qf 41 17 aT0 [.t 4]) (λds r h=>?_) (λds r h=>?_)
 ·grind [pE]
 ·obtain⟨nl,t,l,s,rfl,hl,rfl⟩:=pE h;have b:∀m fr,(TB aEA).ex [.slice nl t (Ar l)] m fr=some (.slice false [] ((l.map (·.1)).map .str),[]):=by
   grind [TB,aII]
  have a:vL [.str s,.slice false [] ((l.map (·.1)).map .str)]=some (.int .i64 (Hr s (l.map (·.1)))):=aIJ Xj;have g:((l.map (·.1)).map D.str).all D.calm=true:=X3
  have v:((l.map (·.1)).map D.str).map D.un=(l.map (·.1)).map D.str:=by rw[QJ];exact QD λ_ _=>rfl
  unfold aT0 C0;have k:=Wy s (l.map (·.1));rw[Qy]at k;generalize Hr s (l.map (·.1))=i at a k;by_cases hi:i<0
  ·simp only[↓C2,Gt,simprocAttr,AD d,b,Ab c,a,hi]
  ·obtain⟨j,rfl⟩:=QX (show 0<=i by omega);have hj:j<l.length:=by omega
   have w:=nJ (j:=j);have f:(Ar l)[j]?=some (.agg [.str (CB l j).1,.int .u8 (CB l j).2]):=Oh hj;simp only[↓C2,Gt,simprocAttr,AD d,b,Ab c,a,hi,w,Qj,f,Qh,Qk,Qm,and_self,QB,QE,QP]
def Mz(l:List Rl)(s:Bs)(c:Int):Bool:=WP (C0 l s).toNat c.toNat
def FT(l:List Rl):Prop:=∀r∈l,0<=r.2∧r.2<256
open Classical in
def aEx:List D->Option D
 |[.slice _ _ xs,.str s,.int .u8 k]=>if xs=Ar (Ba xs)∧xs.length<=1000000∧FT (Ba xs)∧Ca (Ba xs)∧s.length<=1000000∧0<=k∧k<256 then some (.bool (Mz (Ba xs) s k))else none
 |_=>none
open Classical in
def aIF{nl:Bool}{t:Id}{l:List Rl}{s:Bs}{k:Int}(hl:l.length<=1000000)(y:FT l)(d:Ca l)(g:s.length<=1000000)(f:0<=k)(u:k<256):aEx [.slice nl t (Ar l),.str s,.int .u8 k]=some (.bool (Mz l s k)):=by
 have h:Ar l=Ar (Ba (Ar l))∧(Ar l).length<=1000000∧FT (Ba (Ar l))∧Ca (Ba (Ar l))∧s.length<=1000000∧0<=k∧k<256:=by rw[AY,AW];exact⟨rfl,hl,y,d,g,f,u⟩
 show(if _ then _ else _)=_;rw[if_pos h,AY]
open Classical in
theorem dV{ds:List D}{r:D}(h:aEx ds=some r):∃nl t l s k,ds=[.slice nl t (Ar l),.str s,.int .u8 k]∧l.length<=1000000∧FT l∧Ca l∧s.length<=1000000∧0<=k∧k<256∧r= .bool (Mz l s k):=by
 unfold aEx at h;split at h
 ·rename_i nl t xs s k;split at h
  ·rename_i y;obtain⟨u,z,i,d,g,o,m⟩:=y;simp only[Qb]at h;subst h;refine⟨nl,t,Ba xs,s,k,by rw[←u],?_,i,d,g,o,m,rfl⟩;rw[u,AW]at z;exact z
  ·cases h
 ·cases h
def nN{l:List Rl}{s:Bs}(y:FT l):0<=C0 l s∧C0 l s<256:=by
 unfold C0;have r:=Wy s (l.map (·.1));rw[Qy]at r;split
 ·omega
 ·rename_i h;have q:(Hr s (l.map (·.1))).toNat<l.length:=by omega
  have:CB l (Hr s (l.map (·.1))).toNat=l[(Hr s (l.map (·.1))).toNat]:=by simp[CB,Qc q]
  rw[this];exact y _ (Ze q)
def aRS:Kq aEx 307:=by
 obtain⟨S,j,hl⟩:=Bd (Aa aNK Ad);have e:=hl 41 _ rfl;clear hl;refine AK (S:=S) j (Aj func307:Fn Qf 307 13 aLp [.t 6]) (λds r h=>?_) (λds r h=>?_)
 ·grind [dV]
 ·obtain⟨nl,t,l,s,k,rfl,hl,p,d,g,f,u,rfl⟩:=dV h;have w:=kF (nl:=nl) (t:=[]) (s:=s) hl;have o:=nN (s:=s) p;have z:(Ar l).all D.calm=true:=by rw[Qt];intro x q;obtain⟨y,_,rfl⟩:=QZ.1 q;rfl
  have v:(Ar l).map D.un=Ar l:=YJ
  unfold aLp Mz;generalize C0 l s=a at w o;obtain⟨a,rfl⟩:=QX o.1;obtain⟨k,rfl⟩:=QX f;have b:=P1 (a:=a) (c:=k) O O;have m:decide (((Zr k (255-a):Nat):Int)=0)=WP a k:=by
   unfold WP;generalize Zr k (255-a)=x;cases x with
   |zero=>rfl
   |succ x=>simp[Nat.beq];omega
  simp only[↓C2,Gt,simprocAttr,Ab e,w,Vp,b,m,Qj]
def hU{m:Gu}{e:Nat}{nl:Bool}{t:Id}{xs:List D}:Iw m e (.slice nl t xs)=(nl=true∨(m t 0=some (.tok (e+1))∧t≠[])):=rfl
def WR{e:Nat}{fr t:Id}{xs:List D}:A6 e fr (.slice false t xs)=[(t,0,[.tok 0]),(fr,0,[.tok (e+1)])]:=rfl
def MT(l:List Rl):(Ar l).all D.calm=true:=X3
def TC(l:List Rl):(Ar l).map D.un=Ar l:=YJ
def fM(a b:List Rl)(r:Rl):Bool:=WP (C0 b r.1).toNat (C0 a r.1).toNat
def Eo(a b l:List Rl):Nat->Nat->Bool
 |0,_=>true
 |f+1,j=>if fM a b (CB l j)=true then Eo a b l f (j+1)else false
def Il(a b l:List Rl):∀(f j:Nat),l.length=j+f->Eo a b l f j=(l.drop j).all (fM a b)
 |0,j,h=>by rw[List.drop_of_length_le O];rfl
 |f+1,j,h=>by
  have q:j<l.length:=O
  have e:CB l j=l[j]:=by simp[CB,Qc q]
  unfold Eo;rw[Il a b l f (j+1) O,Q4 q,ZI,e];cases fM a b l[j]<;>simp
def Gj(a b:List Rl):Bool:=decide (Cp a=0)&&decide (Cp b=0)&&(a++b).all (fM a b)
open Classical in
def aIY:List D->Option D
 |[.slice _ _ xs,.slice _ _ ys]=>if(xs=Ar (Ba xs)∧xs.length<=1000000∧Ca (Ba xs)∧FT (Ba xs))∧ys=Ar (Ba ys)∧ys.length<=1000000∧Ca (Ba ys)∧FT (Ba ys)then some (.bool (Gj (Ba xs) (Ba ys)))else none
 |_=>none
open Classical in
def aIX{na nb:Bool}{ta tb:Id}{a b:List Rl}(z:a.length<=1000000)(lb:b.length<=1000000)(o:Ca a)(v:Ca b)(n:FT a)(p:FT b):aIY [.slice na ta (Ar a),.slice nb tb (Ar b)]=some (.bool (Gj a b)):=by
 have h:(Ar a=Ar (Ba (Ar a))∧(Ar a).length<=1000000∧Ca (Ba (Ar a))∧FT (Ba (Ar a)))∧Ar b=Ar (Ba (Ar b))∧(Ar b).length<=1000000∧Ca (Ba (Ar b))∧FT (Ba (Ar b)):=by
  grind [AY,AW]
 show(if _ then _ else _)=_;rw[if_pos h,AY,AY]
open Classical in
theorem dY{ds:List D}{r:D}(h:aIY ds=some r):∃na ta a nb tb b,ds=[.slice na ta (Ar a),.slice nb tb (Ar b)]∧a.length<=1000000∧b.length<=1000000∧Ca a∧Ca b∧FT a∧FT b∧r= .bool (Gj a b):=by
 unfold aIY at h;split at h
 ·rename_i na ta xs nb tb ys;split at h
  ·rename_i y;obtain⟨⟨u,z,i,o⟩,m,e,j,k⟩:=y;simp only[Qb]at h;subst h;refine⟨na,ta,Ba xs,nb,tb,Ba ys,by rw[←u,←m],?_,?_,i,j,o,k,rfl⟩
   ·rw[u,AW]at z;exact z
   ·rw[m,AW]at e;exact e
  ·cases h
 ·cases h
def aK9:=y0 f58 [] []
def mZ:=y0 f59 [] []
def aJ3:Fn Qf 59 12 mZ [.t 4]:=Aj func59
def Oy:=y1 f60 3 [] []
def mY:=y0 f60 [] [(3,Oy)]
def aJ2:Fn Qf 60 23 mY [.t 4]:=Aj func60
def nD:=y0 f25 [(3,[(5,1)])] []
def aJ6:Fn Qf 25 52 nD [.t 4]:=Aj func25
def aMl:=y0 f186 [] []
def OL:=y1 f189 3 [] []
def aMi:=y0 f189 [] [(3,OL)]
def dU:List D->Option D
 |[.int .i64 n,.int .i64 lo,.int .i64 hi]=>some (.bool (decide (lo<=n∧n<=hi)))
 |_=>none
def zA:Kq dU 58:=by
 refine AK (S:=λ_=>none) A2 (Aj func58:Fn Qf 58 15 aK9 [.t 6]) (λds r h=>?_) (λds r h=>?_)
 ·unfold dU at h;split at h
  ·simp
  ·cases h
 ·unfold dU at h;split at h
  ·rename_i n lo hi;simp only[Qb]at h;subst h;unfold aK9;simp only[↓C2,Gy,simprocAttr]
   repeat' (first|(refine aG (λh=>?_) (λh=>?_)<;>try (exfalso;omega))|(simp only[↓C2,Gt,simprocAttr,h,and_self,false_and]))
   all_goals (simp_all<;>omega)
  ·cases h
def aIy:List D->Option D
 |[.agg [.int .i64 a,.bool b,.int .i64 c,.slice nl t xs],.agg [.int .i64 q,.bool b2]]=>some (.int .i64 (if a=0 then q else a))
 |_=>none
def aRK:Kq aIy 59:=by
 refine AK (S:=λ_=>none) A2 aJ3 (λds r h=>?_) (λds r h=>?_)
 ·unfold aIy at h;split at h
  ·simp
  ·cases h
 ·unfold aIy at h;split at h
  ·rename_i a b c nl t xs q u;simp only[Qb]at h;subst h;unfold mZ;simp only[↓C2,Gt,simprocAttr,Ah,Qx,Qw,Qh,Qk,Qm,Qg,and_self,Qn,Qp]
   repeat' (first|(refine aG (λh=>?_) (λh=>?_)<;>try (exfalso;omega))|(simp only[↓C2,Gt,simprocAttr,h,Ah,Qx,Qw,Qh,Qk,Qm,Qg,and_self,Qn,Qp,QQ]))
   all_goals simp_all
  ·cases h
def aIx:List D->Option D
 |[.slice nl t [],.fn g caps]=>some (.bool true)
 |_=>none
def aRJ:Kq aIx 60:=by
 refine AK (S:=λ_=>none) A2 aJ2 (λds r h=>?_) (λds r h=>?_)
 ·unfold aIx at h;split at h
  ·simp
  ·cases h
 ·unfold aIx at h;split at h
  ·rename_i nl t g caps;simp only[Qb]at h;subst h;unfold mY;simp only[↓C2,Gy,simprocAttr,Qk];refine Af Oy.eq_1 ?_;simp only[↓C2,Gt,simprocAttr,and_self,Zn,Zk]
  ·cases h
def aIO:List D->Option D
 |[.agg [.int .i64 0,.bool b,.int .i64 0,.slice nl t []],.agg [.int .i64 q,.bool b2]]=>some (.int .i64 (if 1<=q∧q<=6 then 0 else 2))
 |_=>none
def aR3:Kq aIO 25:=by
 obtain⟨S,s,hl⟩:=Bd (Aa zA (Aa aRK (Aa aRJ Ad)));have a:=hl 58 _ rfl;have e:=hl 59 _ rfl;have i:=hl 60 _ rfl;clear hl;refine AK (S:=S) s aJ6 (λds r h=>?_) (λds r h=>?_)
 ·unfold aIO at h;split at h
  ·simp
  ·cases h
 ·unfold aIO at h;split at h
  ·rename_i b nl t q u;simp only[Qb]at h;subst h;unfold nD;have c:∀n lo hi,dU [.int .i64 n,.int .i64 lo,.int .i64 hi]=some (.bool (decide (lo<=n∧n<=hi))):=λ_ _ _=>rfl
   have d:aIy [.agg [.int .i64 0,.bool b,.int .i64 0,.slice nl [] []],.agg [.int .i64 q,.bool u]]=some (.int .i64 q):=rfl;have f:∀nl t g caps,aIx [.slice nl t [],.fn g caps]=some (.bool true):=λ_ _ _ _=>rfl
   by_cases p:1<=q∧q<=6
   ·have j:¬(q<0):=by omega
    simp only[↓C2,GJ,simprocAttr,Ah,Au,Av,Qi,Qn,Qp,QQ,and_false,Ab a,c,Ab e,d,Ab i,f,p,j,Zk];refine AS ?_;simp only[↓C2,GJ,simprocAttr,Ah,Qn,Qp,and_false,p,Zn,Zk]
   ·simp only[↓C2,Gt,simprocAttr,Ah,Qx,Qw,Qh,Qk,Qm,Qg,and_self,Qn,QQ,Ab a,c,p]
  ·cases h
def aLs:=y0 f113 [] []
def aMf:=y0 f62 [] []
def aMg:=y0 f192 [] []
abbrev Mt:=Bs×Int×Bool
def MI(m:Mt):D:= .agg [.str m.1,.int .i64 m.2.1,.bool m.2.2]
def AA(l:List Mt):List D:=l.map MI
def mtT:D->Mt
 | .agg [.str p,.int .i64 q,.bool b]=>(p,q,b)
 |_=>([],0,false)
def Da(xs:List D):List Mt:=xs.map mtT
def By(l:List Mt):Da (AA l)=l:=by
 simp only[Da,AA,QJ]
 conv=>rhs;rw[←ZB l]
 exact QD λr _=>rfl
theorem AV(l:List Mt):(AA l).length=l.length:=Qy ..
def zM(l:List Mt):(AA l).all (mS (some 3))=true:=by
 rw[Qt];intro x q;obtain⟨r,_,rfl⟩:=QZ.1 q;rfl
def Cu(l:List Mt)(j:Nat):Mt:=l.getD j ([],0,false)
def Ok{l:List Mt}{j:Nat}(h:j<l.length):(AA l)[j]?=some (MI (Cu l j)):=by
 grind [AA,Cu]
def Eb(p:Bs)(q:Int):Int:=if AQ p≠0 then AQ p else if 1<=q∧q<=6 then 0 else 2
def B0(l:List Mt)(p:Bs):Int:=A9 (l.map λm=>decide (m.1=p))
def rG{l:List Mt}{nl:Bool}{t:Id}(hl:l.length<=1000000){q:Bs}(m:Gu)(fr i:Id)(w:m i 0=some (.str q)):
  (Fl 248 (some 3) aEi).ex [.slice nl t (AA l),.fn 248 [.ptr i 0]] m fr=some (.int .i64 (B0 l q),[]):=by
 have e:(AA l).map (aEi (.str q))=(l.map λr=>decide (r.1=q)).map λb=>some (.bool b):=by
  simp only[AA,QJ];exact QD λr _=>rfl
 simp only[Fl,AV,hl,zM,and_self,if_true,Fp,w,Qi,e,C5,QO];rfl
def L1(s:Bs)(l:List Bs):Bool:=l.any λq=>Cz s q||Cz q s
def aCu{l:List Bs}{nl:Bool}{t:Id}(hl:l.length<=1000000){s:Bs}(m:Gu)(fr i:Id)(w:m i 0=some (.str s)):
  (eC 249 none vD).ex [.slice nl t (l.map .str),.fn 249 [.ptr i 0]] m fr=some (.bool (L1 s l),[]):=by
 have e:(l.map D.str).map (vD (.str s))=(l.map λq=>Cz s q||Cz q s).map λb=>some (.bool b):=by
  simp only[QJ];exact QD λr _=>rfl
 have n:(l.map D.str).all (mS none)=true:=by
  rw[Qt];intro x d;obtain⟨r,_,rfl⟩:=QZ.1 d;rfl
 simp only[eC,Qy,hl,n,and_self,if_true,Fp,w,Qi,e,C5,QO];simp only[L1,ZN];rfl
def aI5:List D->Option D
 |[.agg [.str p,.int .i64 q,.bool b]]=>if p.length<=1000000 then some (.int .i64 (Eb p q))else none
 |_=>none
def aSl:Kq aI5 186:=by
 obtain⟨S,j,hl⟩:=Bd (Aa lQ (Aa aR3 Ad));have n:=hl 107 _ rfl;have o:=hl 25 _ rfl;clear hl;refine AK (S:=S) j (Aj func186:Fn Qf 186 14 aMl [.t 2]) (λds r h=>?_) (λds r h=>?_)
 ·unfold aI5 at h;split at h
  ·simp
  ·cases h
 ·unfold aI5 at h;split at h
  ·rename_i p q b;split at h
   ·rename_i y;simp only[Qb]at h;subst h;unfold aMl;have a:dX [.str p]=some (.int .i64 (AQ p)):=if_pos y;have z:aIO [.agg [.int .i64 0,.bool false,.int .i64 0,.slice true [] []],.agg [.int .i64 q,.bool b]]=some (.int .i64 (if 1<=q∧q<=6 then 0 else 2)):=rfl;unfold Eb;generalize AQ p=e at *;generalize (if 1<=q∧q<=6 then(0:Int)else 2)=f at *;by_cases d:e=0
    ·subst d;simp only[↓C2,GJ,reduceIte,Qd,Qe,Ah,Au,Av,QL,Qi,B7,Ab n,a,Ab o,z,ne_eq]
    ·simp only[↓C2,Gt,reduceIte,Qd,Qe,Ah,Qx,QL,Qw,Qh,Qk,Qm,Qg,and_self,Ab n,a,d,ne_eq]
   ·cases h
  ·cases h
open Classical in
def aEI:List D->Option D
 |[.agg [.slice _ _ xs],.str p]=>if xs=AA (Da xs)∧xs.length<=1000000 then some (.int .i64 (B0 (Da xs) p))else none
 |_=>none
open Classical in
def OS{nl:Bool}{t:Id}{l:List Mt}{p:Bs}(hl:l.length<=1000000):aEI [.agg [.slice nl t (AA l)],.str p]=some (.int .i64 (B0 l p)):=by
 have h:AA l=AA (Da (AA l))∧(AA l).length<=1000000:=XS
 show(if _ then _ else _)=_;rw[if_pos h,By]
def zC:Kq aEI 187:=by
 obtain⟨S,j,hl⟩:=Bd (Aa aOO Ad);have a:=hl 247 _ rfl;clear hl;refine AK (S:=S) j (Aj func187:Fn Qf 187 9 aMk [.t 4]) (λds r h=>?_) (λds r h=>?_)
 ·unfold aEI at h;split at h
  ·simp
  ·cases h
 ·unfold aEI at h;split at h
  ·rename_i nl t xs p;split at h
   ·rename_i y;obtain⟨d,v⟩:=y;simp only[Qb]at h;subst h;generalize Da xs=l at d;subst d;rw[AV]at v;unfold aMk;simp only[↓C2,Gt,reduceIte,Qd,Qe,Ah,Qx,QL,Qw,Qh,Qk,Qm,Qg,and_self,Qn,Qp,QQ,AD a,rG (q:=p) v]
   ·cases h
  ·cases h
def aEH:List D->Option D
 |[.str s,.slice _ _ xs]=>(F4 xs).bind λl=>if l.length<=1000000 then some (.bool (L1 s l))else none
 |_=>none
def aI4{s:Bs}{nl:Bool}{t:Id}{l:List Bs}(hl:l.length<=1000000):aEH [.str s,.slice nl t (l.map .str)]=some (.bool (L1 s l)):=by
 grind [aEH,F_]
def aSk:Kq aEH 188:=by
 obtain⟨S,j,hl⟩:=Bd (Aa aUv Ad);have a:=hl 118 _ rfl;clear hl;refine AK (S:=S) j (Aj func188:Fn Qf 188 8 aMj [.t 4]) (λds r h=>?_) (λds r h=>?_)
 ·unfold aEH at h;split at h
  ·simp
  ·cases h
 ·unfold aEH at h;split at h
  ·rename_i s nl t xs;rw[QC]at h;obtain⟨l,g,h⟩:=h;obtain rfl:=EX g;split at h
   ·rename_i hl;simp only[Qb]at h;subst h;unfold aMj;simp only[↓C2,Gt,reduceIte,Qd,Qe,Ah,Qx,QL,Qw,Qh,Qk,Qm,Qg,and_self,AD a,aCu (s:=s) hl]
   ·cases h
  ·cases h
def RI.base{fr r:Id}{m0 a m:Gu}{l:List Bs}{j:Nat}(h:RI fr r a m l j)(e:∀i o,¬fr<:+i->a i o=m0 i o):RI fr r m0 m l j:=
 ⟨h.row,λi o c=>(h.out i o c).trans (e i o c)⟩
open Classical in
def aI3:List D->Option (List Bs)
 |[.agg [.slice _ _ xs]]=>if xs=AA (Da xs)∧xs.length<=1000000 then some ((Da xs).map (·.1))else none
 |_=>none
open Classical in
def aI2{nl:Bool}{t:Id}{l:List Mt}(hl:l.length<=1000000):aI3 [.agg [.slice nl t (AA l)]]=some (l.map (·.1)):=by
 have h:AA l=AA (Da (AA l))∧(AA l).length<=1000000:=XS
 show(if _ then _ else _)=_;rw[if_pos h,By]
open Classical in
def aEG{ds:List D}{r:List Bs}(h:aI3 ds=some r):∃nl t l,ds=[.agg [.slice nl t (AA l)]]∧l.length<=1000000∧r=l.map (·.1):=by
 unfold aI3 at h;split at h
 ·rename_i nl t xs;split at h
  ·rename_i y;obtain⟨u,z⟩:=y;simp only[Qb]at h;subst h;refine⟨nl,t,Da xs,by rw[←u],?_,rfl⟩;rw[u,AV]at z;exact z
  ·cases h
 ·cases h
def aGh{S:Gq}{fr:Id}{l:List Mt}{nl:Bool}{t:Id}{m0:Gu}{k:Nat}{Q:Ex->St->Prop}(o:l.length<=1000000)
  (w:∀y,y.s 3= .row (k::fr) l.length->RI fr (k::fr) m0 y.m (l.map (·.1)) l.length->Q (.exit 0) y):
  ∀(f j:Nat) y g,l.length=j+f->k<y.c->y.s 3= .row (k::fr) l.length->y.s 11= .slice nl t (AA l)->y.s 12= .int .i64 (l.length:Int)->y.s 13= .int .i64 (j:Int)->RI fr (k::fr) m0 y.m (l.map (·.1)) j->A5 S fr OL Q y g:=by
 intro f;induction f with
 |zero=>
  intro j y g b p i e z a I;refine Af OL.eq_1 ?_;have:¬((j:Int)<l.length):=O
  simp only[↓C2,Gy,GI,reduceIte,Qe,z,a,this];exact w _ i X2
 |succ f ih=>
  intro j y g b p i e z a I;refine Af OL.eq_1 ?_;have q:j<l.length:=O
  have ea:((j:Int)<l.length):=O
  have oa:=nJ (j:=j);have hw:=wJ (j:=j) O;have d:(AA l)[j]?=some (.agg [.str (Cu l j).1,.int .i64 (Cu l j).2.1,.bool (Cu l j).2.2]):=Ok q;have hg:(l.map (·.1)).getD j []=(Cu l j).1:=by simp[Cu,Qc q]
  generalize Cu l j=r at d hg;have x:((y.c+1+3)::fr=k::fr)=False:=eq_false Xb;have v:(k::fr=(y.c+1+3)::fr)=False:=eq_false Xb;have n:=I.row j Xu;rw[if_neg O]at n;obtain⟨ka,fa,u⟩:=y;simp only at i e z a p x v n I;simp only[↓C2,GJ,reduceIte,Qd,Qe,i,e,z,a,ea,oa,hw,Qj,d,v,n,QA,false_and,Ah,Au,Av,QL,Qi,Qu,Qz,Qo,false_and];refine ih (j+1) _ _ O Xa i e z rfl ?_;rw[←hg];exact((I.put Xb).put Xb).fill (QI _ _)
def aSj:(TB aI3).ok Qf 189:=by
 refine lI (S:=λ_=>none) A2 (Aj func189:Fn Qf 189 25 aMi [.t 2]) (λds r m fr h n=>?_);obtain⟨nl,t,l,rfl,hl,rfl⟩:=aEG h;refine⟨U,?_⟩;have z:((0:Int)<=(l.length:Int)):=O
 have x:((l.length:Int)*(((16:Nat):Int)+1)<=140737488355328)=True:=eq_true O;unfold aMi;simp only[↓C2,Gt,reduceIte,Qd,Qe,z,x,AV,Qj,ZC,Ah,Qx,QL,Qw,Qh,Qk,Qm,Qg,and_self,Qn,false_and];refine aGh (l:=l) (nl:=nl) (t:=t) (m0:=m) (k:=5) hl (λy u v=>?_) l.length 0 _ _ O Xa rfl rfl rfl rfl ?_
 ·simp only[↓C2,Gy,reduceIte,Qd,Qe,u,Qy];exact⟨_,rfl,QI _ _,v⟩
 ·exact RI.base (RI.start (by simp[])) (λi o c=>aA (λe=>c Yi))
def aKS:=y0 f61 [] []
def aKz:=y0 f57 [] []
def aLe:=y0 f273 [] []
def aL0:=y0 Tryz.f219 [(1,[(1,0)])] []
def aLd:=y0 f274 [] []
def aKy:=y0 Tryz.f314 [] []
def aLc:=y0 f275 [(5,[(2,4),(2,6),(6,1),(6,2)]),(7,[(4,2)])] []
def aKx:=y0 f315 [] []
def Uz:=y1 f278 4 [] []
def aK8:=y0 f278 [(1,[(5,1)])] [(4,Uz)]
def bT:=y0 f316 [] []
def aA7:Fn Qf 316 8 bT [.t 2]:=Aj func316
def aLY:=y0 f222 [] []
def Uy:=y1 f279 8 [] []
def aK6:=y0 f279 [(1,[(1,0)])] [(8,Uy)]
def aK5:=y0 f280 [] []
def aK4:=y0 f281 [] []
def aK3:=y0 f282 [] []
def aLW:=y0 f226 [] []
def aLV:=y0 f227 [] []
def aLU:=y0 f228 [] []
def aKv:=y0 f318 [] []
def Us:=y1 f343 2 [] []
def aKh:=y0 f343 [] [(2,Us)]
def Uv:=y1 f317 5 [(7,[(6,2),(6,8),(9,2)])] []
def aKw:=y0 f317 [(1,[(1,0)]),(3,[(5,1),(5,7),(5,10)])] [(5,Uv)]
def aKi:=y0 f342 [] []
end Go.Vd
namespace Go.Vd
section
variable{α:Type}(lt:α->α->Bool)(d:α)
def swp(xs:List α)(j:Nat):List α:=(xs.set (j+1) (xs.getD j d)).set j (xs.getD (j+1) d)
def PB(xs:List α):Nat->List α
 |0=>xs
 |j+1=>if lt (xs.getD (j+1) d) (xs.getD j d)=true then PB (swp d xs j) j else xs
def CU:Nat->Nat->List α->List α
 |0,_,xs=>xs
 |f+1,i,xs=>CU f (i+1) (PB lt d xs i)
def kR(l:List α)(m:α):Nat->Nat
 |0=>0
 |j+1=>if lt m (l.getD j d)=true then kR l m j else j+1
def aJR(l:List α)(m:α):∀j,kR lt d l m j<=j
 |0=>QA _
 |j+1=>by
  unfold kR;split
  ·exact Nat.le_succ_of_le (aJR l m j)
  ·exact QA _
def kV(xs:List α)(j:Nat):(swp d xs j).length=xs.length:=by simp[swp]
def PA:∀(j:Nat)(xs:List α),(PB lt d xs j).length=xs.length
 |0,xs=>rfl
 |j+1,xs=>by
  unfold PB;split
  ·rw[PA j,kV]
  ·rfl
theorem isortR_len:∀(f i:Nat)(xs:List α),(CU lt d f i xs).length=xs.length
 |0,_,xs=>rfl
 |f+1,i,xs=>by rw[CU,isortR_len f,PA]
def aFk(a b:List α)(x y:α):swp d (a++x::y::b) a.length=a++y::x::b:=by
 simp_all [swp]
def WL(l:List α)(m:α):∀(j:Nat)(b:List α),j<=l.length->PB lt d (l.take j++m::b) j=l.take (kR lt d l m j)++m::((l.take j).drop (kR lt d l m j)++b)
 |0,b,_=>by simp[PB,kR]
 |j+1,b,h=>by
  have v:(l.take j).length=j:=XE
  have q:l.take (j+1)=l.take j++[l.getD j d]:=by
   rw[Zb O];simp[Zy,Qc (show j<l.length by omega)]
  have e:l.take (j+1)++m::b=l.take j++l.getD j d::m::b:=by rw[q];simp
  have p:(l.take j++l.getD j d::m::b).getD (j+1) d=m:=by
   simp_all
  have k:(l.take j++l.getD j d::m::b).getD j d=l.getD j d:=by
   simp_all
  rw[e];unfold PB kR;rw[p,k];split
  ·have g:=aFk d (l.take j) b (l.getD j d) m;rw[v]at g;rw[g,WL l m j (l.getD j d::b) O,q];have o:=aJR lt d l m j;rw[List.drop_append_of_le_length O];simp
  ·simp_all
def gR{xs:List α}{i:Nat}(h:lt (xs.getD i d) (xs.getD (i-1) d)=false):PB lt d xs i=xs:=by
 cases i with
 |zero=>rfl
 |succ j=>
  unfold PB;rw[Zv]at h;rw[if_neg (by rw[h];exact Bool.false_ne_true)]
def SG(l:List α)(m:α)(o:∀i,i+1<l.length->lt (l.getD (i+1) d) (l.getD i d)=false):
  ∀(f i:Nat),1<=i->i+f=l.length+1->CU lt d f i (l++[m])=if f=0 then l++[m]else l.take (kR lt d l m l.length)++m::l.drop (kR lt d l m l.length)
 |0,i,_,_=>by simp[CU]
 |f+1,i,hi,h=>by
  rw[if_neg (Qv f)];unfold CU;by_cases k:f=0
  ·subst k;have:i=l.length:=by omega
   subst this;have:=WL lt d l m l.length [] (QA _);simp only[Zp,List.append_nil]at this;unfold CU;exact this
  ·have g:i<l.length:=by omega
   have p:(l++[m]).getD i d=l.getD i d:=by simp[Zy,QU g]
   have j:(l++[m]).getD (i-1) d=l.getD (i-1) d:=by simp[Zy,QU (show i-1<l.length by omega)]
   rw[gR lt d (by rw[p,j];have:=o (i-1) O;rwa [show i-1+1=i by omega]at this),SG l m o f (i+1) O O,if_neg k]
end
end Go.Vd
namespace Go.Vd
open Go.RowKit
def D.plain:D->Bool
 | .bool _| .int _ _| .str _=>true
 |_=>false
def Rep.plain{w t:World}{g a:Gh}{d:D}{v:Value}(h:Rep w g d v)(y:d.plain=true):Rep t a d v:=by
 cases h with
 |bool b=>exact .bool b
 |int k n=>exact .int k n
 |str s=>exact .str s
 |_=>cases y
def H1(F:List D->Option (List D)):G_ where
 rd:=λ_ _=>[]
 ex:=λds _ fr=>if(ds.map D.un).all D.calm=true then(F (ds.map D.un)).map λxs=>(.row fr xs.length,[(fr,0,flat xs)])else none
section
variable{P:Program}{B:Nat}{w0 w w':World}{m:Gu}{g:Gh}
def GD.adopt(h:GD P B w0 m w g)(hb:Below w.heap.size w w'){fr:Id}(hf:BN m g fr){b:Nat}(a:w.heap.size<=b){cur:Array Value}{T:TypeId}(hh:w'.heap[b]?=some (.cells cur T (0,0))){ds:List D}
  (hc:∀(j:Nat) d,ds[j]?=some d->d.plain=true∧∃v,cur[j]?=some v∧v.oneCell'=true∧Rep w' (g.obj fr b) d v):
  GD P B w0 (m.put fr 0 ds) w' (g.obj fr b)∧GR w g w' (g.obj fr b):=by
 have x:GR w g w' (g.obj fr b):=by
  refine⟨λp hp=>?_,λb=>QA _,λi' b h=>?_,rfl,λi x h=>h⟩
  ·by_cases k:p.block<w.heap.size
   ·exact hb.cell k
   ·rw[h.gz _ O]at hp;omega
  ·simp only[Gh.obj];split
   ·rename_i e;subst e;rw[hf.2.1]at h;cases h
   ·exact h
 refine⟨?_,x⟩;have ne:∀i' b',g.dl i'=some b'->i'≠fr:=λi' b' hb e=>by subst e;rw[hf.2.1]at hb;cases hb
 have da:∀o d,m.put fr 0 ds fr o=some d->ds[o]?=some d:=by
  intro o d hm;by_cases ho:o<ds.length
  ·have z:m.put fr 0 ds fr (0+o)=ds[o]?:=aE ho;rw[Qm]at z;rw[←z];exact hm
  ·rw[aD O,hf.1 o]at hm;cases hm
 have ra:∀{o d},m.put fr 0 ds fr o=some d->d.plain=true:=λhm=>(hc _ _ (da _ _ hm)).1
 have u:∀{i o d},m.put fr 0 ds i o=some d->d.plain=false->i≠fr∧m i o=some d:=by
  grind [aA]
 refine⟨h.below.trans (hb.mono h.size),QR h.size hb.size,λb' ta=>h.gz b' (QR hb.size ta),h.old,λi' b' hi=>?_,λi1 i2 b' f t=>?_,λi' o d hm hd=>?_,λi' e hi=>?_,λi1 i2 e e' b' y y' f t h3 h4=>?_,h.itr.to (λi' s p e=>(u e rfl).2) λi' b' s p _ _ _ e1 e2 e3=>?_⟩
 rotate_right
 ·have k:b'<w.heap.size:=(QG.1 e1).1;refine⟨rfl,hb.block b' k,e2,λi1 f=>?_⟩;simp only[Gh.obj]at f;split at f
  ·grind
  ·exact e3 i1 f
 ·simp only[Gh.obj]at hi;split at hi
  ·rename_i e;subst e;simp only[Qb]at hi;subst hi;refine⟨QR h.size a,h.gz _ a,cur,T,hh,λo d hm=>?_⟩;exact(hc o d (da o d hm)).2
  ·rename_i ga;obtain⟨p,q,bb,T',ma,r⟩:=h.obj i' b' hi;refine⟨p,q,bb,T',(hb.block b' (h.lt hi)).trans ma,λo d hm=>?_⟩;rw[aA ga]at hm;obtain⟨v,r1,r2,r3⟩:=r o d hm;exact⟨v,r1,r2,r3.ext x⟩
 ·simp only[Gh.obj]at f t;split at f<;>split at t
  ·simp_all
  ·simp only[Qb]at f;subst f;have:=h.lt t;omega
  ·simp only[Qb]at t;subst t;have:=h.lt f;omega
  ·exact h.inj _ _ _ f t
 ·simp only[Gh.obj]at hd;split at hd
  ·cases hd
  ·rename_i ga;rw[aA ga]at hm;exact h.kind _ _ _ hm hd
 ·obtain⟨ga,hi⟩:=u hi rfl;obtain⟨b1,n,c,sz,na,t1,t2,t3,t4,t5,t6,t7,t8,t9,xa⟩:=h.tok i' e hi;have k:b1<w.heap.size:=(QG.1 t5).1;refine⟨b1,n,c,sz,na,t1,t2,t3,t4,(hb.block b1 k).trans t5,t6,t7,t8,t9,λi1 f=>?_⟩;simp only[Gh.obj]at f;split at f
  ·grind
  ·exact xa i1 f
 ·exact h.tinj _ _ _ _ _ _ _ (u f rfl).2 (u t rfl).2 h3 h4
end
section
variable{P:Program}{S:Gq}{f:FuncId}{N:Nat}{dc:DC}{rs:List RV}
def yS(hS:Gq.ok P S)(hf:Fn P f N dc rs){F:List D->Option (List D)}(hN:∀ds r,F ds=some r->ds.length<=N)
  (hF:∀ds xs,F ds=some xs->(∀x∈flat xs,x.plain=true)∧dc.wp S [] (DM rs λd m'=>∃t e,d= .slice false t xs∧t≠[]∧m' t 0=some (.tok (e+1))) ⟨Bv ds,λ_ _=>none,0⟩):(H1 F).ok P f:=by
 obtain⟨fn,y,q,h2,h3,h4,h5,h6⟩:=hf.is;refine⟨⟨fn,q,by rw[h2];rfl,h3⟩,λds m m' fr _=>rfl,?_⟩;intro B w0 w m g fr ds vs r u hi fa hl da z;simp only[H1]at z;split at z
 ·rename_i ia;rw[Ql]at z;obtain⟨xs,hr,z⟩:=z;simp only[Qs]at z;obtain⟨rfl,rfl⟩:=z;obtain⟨ra,za⟩:=hF _ _ hr;have va:=MN P w hi.gz;have ca:∀(j:Nat) d v,(ds.map D.un)[j]?=some d->vs[j]?=some v->Rep w (startG g.G) d v:=by
   intro j d v s hv;have hc:=Qt.1 ia d (Qr s);rw[QN,Ql]at s;obtain⟨d',qa,rfl⟩:=s;exact(da j d' v qa hv).un.calm_to hc (λ_ _=>rfl) (λ_=>QA _)
  have oa:=FU (B:=w.heap.size) (w0:=w) (w:=w) (g:=startG g.G) (ns:=[]) (m:=λ_ _=>none) (ds:=ds.map D.un) (vs:=vs) hS hf (hN _ _ hr) va (λk i _=>⟨λ_=>rfl,rfl,rfl⟩) Xj ca za;refine oa.mono ?_;rintro e w' ⟨v,d,m',g',rfl,ka,la,_,ya,t,e',rfl,ht,a⟩;obtain⟨b,n,c,sz,cur,t1,t2,t3,t4,t5,t6,t7,t8,t9,xa⟩:=ka.tok t e' a;rcases ya.slice_inv with ⟨h,_⟩|⟨_,ad,n',c',pa,vv,rfl,q1,q2,q3,q4,q5,q6,q7,q8,q9⟩
  ·cases h
  ·obtain⟨p,o,l⟩:=q8 ht;rw[t1]at l;simp only[Qb,Qs]at l;obtain⟨hb,hn,hc,ja⟩:=l;have ub:ad=⟨b,0,none⟩:=by
    cases ad;simp only at hb p o;subst hb p o;rfl
   subst ub;subst hn hc ja;have wa:=B6 q3;obtain⟨i1,i2⟩:=hi.adopt ka.below (fa fr (Zq _)) t2 t5 (ds:=flat xs) (λj d s=>by
    have hj:j<n*sz:=by rw[q1,←wa];exact(Qq.1 s).1
    have hp:=ra d (Qr s);have ha:=q4 j hj;rw[EE,Qm]at ha;refine⟨hp,vv j,?_,q5 j hj,(q6 j d s).plain hp⟩;simpa[World.cell?,t5]using ha)
   refine⟨_,g.obj fr b,rfl,i1,i2,?_,λi hf ga=>En hf ga _ _⟩;rw[←q1];exact .row fr n c b q2 (by simp[Gh.obj])
 ·cases z
def aPs(m:Gu)(d r:D):Prop:=r=d.un∨(∃i xs sz,d= .row i xs.length∧r= .slice false [] xs∧(∀x∈xs,x.calm=true∧x.cells.length=sz)∧∀(j:Nat) x,(flat xs)[j]?=some x->m i j=some x)∨
 ∃i xs,d= .ptr i 0∧r= .eptr xs∧(∀x∈xs,x.calm=true)∧∀(j:Nat) x,xs[j]?=some x->m i j=some x
def uR(p:D->D->Prop):List D->List D->Prop
 |[],[]=>True
 |c::cs,x::xs=>p c x∧uR p cs xs
 |_,_=>False
def aPr(m:Gu)(d r:D):Prop:=aPs m d r∨∃cs xs,d= .agg cs∧r= .agg xs∧uR (aPs m) cs xs
def aUJ(m:Gu)(d r:D):Prop:=(r.calm=true∧aPr m d r)∨∃cs xs,d= .tup cs∧r= .tup xs∧uR (aPr m) cs xs
def uR.get{p:D->D->Prop}:∀{cs xs:List D},uR p cs xs->cs.length=xs.length∧∀(j:Nat) c x,cs[j]?=some c->xs[j]?=some x->p c x
 |[],[],_=>⟨rfl,U⟩
 |c::cs,x::xs,h=>by
  obtain⟨u,z⟩:=h;obtain⟨a,b⟩:=uR.get z;refine⟨by simp[a],λj c' o y q=>?_⟩;cases j with
  |zero=>simp only[Qg,Qb]at y q;subst y q;exact u
  |succ j=>simp only[QM]at y q;exact b j c' o y q
 |[],_::_,h=>h.elim
 |_::_,[],h=>h.elim
def mJ(hS:Gq.ok P S)(hf:Fn P f N dc rs){F:List D->Option D}(hN:∀ds r,F ds=some r->ds.length<=N)
  (hF:∀ds r,F ds=some r->r.calmR=true∧dc.wp S [] (DM rs λd m'=>aUJ m' d r) ⟨Bv ds,λ_ _=>none,0⟩):(Ac F).ok P f:=by
 obtain⟨fn,ba,q,t,h3,h4,h5,h6⟩:=hf.is;refine⟨⟨fn,q,by rw[t];rfl,h3⟩,λds m m' fr _=>rfl,?_⟩;intro B w0 w m g fr ds vs r u hi fa hl da z;simp only[Ac]at z;split at z
 ·rename_i ia;rw[Ql]at z;obtain⟨r',hr,z⟩:=z;simp only[Qs]at z;obtain⟨rfl,rfl⟩:=z;obtain⟨ga,za⟩:=hF _ _ hr;have va:=MN P w hi.gz;have ca:∀(j:Nat) d v,(ds.map D.un)[j]?=some d->vs[j]?=some v->Rep w (startG g.G) d v:=by
   intro j d v s hv;have hc:=Qt.1 ia d (Qr s);rw[QN,Ql]at s;obtain⟨d',qa,rfl⟩:=s;exact(da j d' v qa hv).un.calm_to hc (λ_ _=>rfl) (λ_=>QA _)
  have oa:=FU (B:=w.heap.size) (w0:=w) (w:=w) (g:=startG g.G) (ns:=[]) (m:=λ_ _=>none) (ds:=ds.map D.un) (vs:=vs) hS hf (hN _ _ hr) va (λk i _=>⟨λ_=>rfl,rfl,rfl⟩) Xj ca za;refine oa.mono ?_;rintro e w' ⟨v,d,m',g',rfl,ka,la,_,ya,p⟩
  let G':Nat->Nat:=λb=>max (g'.G b) (match w'.heap[b]? with|some (.cells c _ _)=>c.size|_=>0)
  have y:∀b,g'.G b<=(g.glue w G').G b:=by
   intro b;simp only[Gh.glue];split
   ·rename_i ea;rw[ka.old b ea,la.G0];exact QA _
   ·exact Nat.le_max_left ..
  have l:∀b,w'.heap.size<=b->G' b=0:=by
   intro b o;simp only[G'];rw[Array.getElem?_eq_none o,ka.gz b o];rfl
  have hC:∀{d r:D} {v:Value},Rep w' g' d v->aPs m' d r->r.calm=true->Rep w' (g.glue w G') r v:=by
   intro d r v h hs hc;rcases hs with rfl|⟨i,xs,sz,rfl,rfl,n,hm⟩|⟨i,xs,rfl,rfl,n,hm⟩
   ·exact h.un.calm_to hc (λ_ _=>rfl) y
   ·obtain⟨b,cap,rfl,ma,o⟩:=h.row_inv;obtain⟨mb,kb,cur,T,a,ua⟩:=ka.obj i b o;have wa:=B6 λx h=>(n x h).2
    have ab:∀(j:Nat),j<(flat xs).length->∃v,cur[j]?=some v∧v.oneCell'=true∧∃x,(flat xs)[j]?=some x∧Rep w' g' x v:=by
     grind
    have ja:(flat xs).length<=cur.size:=by
     grind
    have ia:∀x∈xs,x.calm=true:=λx h=>(n x h).1
    refine aH (sz:=sz) (cur:=cur) (vs:=cur.toList.take (flat xs).length) a rfl ma (λx h=>(n x h).2) ⟨Xb,λv hv=>?_,λj x v pa hv=>?_⟩ (λj v hv=>?_) ?_ (λh=>absurd rfl h) ia
    ·obtain⟨j,hj,rfl⟩:=QW hv;have ra:j<(flat xs).length:=Zj hj (Zg _ _);obtain⟨v',r1,r2,_⟩:=ab j ra;have:(cur.toList.take (flat xs).length)[j]?=some v':=by rw[QK ra];simpa using r1
     rw[Qc hj]at this;rw[QF this];exact r2
    ·have ra:j<(flat xs).length:=(Qq.1 pa).1;obtain⟨v',r1,r2,x',sa,r3⟩:=ab j ra;rw[pa]at sa;obtain rfl:=QF sa;have:(cur.toList.take (flat xs).length)[j]?=some v':=by rw[QK ra];simpa using r1
     rw[hv]at this;obtain rfl:=QF this;exact r3.calm_to (Nq ia x (Qr pa)) (λ_ _=>rfl) y
    ·grind
    ·rw[←wa];simp only[Gh.glue,G'];rw[if_neg O,a];exact QR ja (Zz ..)
   ·obtain⟨b,rfl,o⟩:=h.ptr_inv;obtain⟨mb,kb,cur,T,a,ua⟩:=ka.obj i b o;have ab:∀(j:Nat)(hj:j<xs.length),∃v,cur[j]?=some v∧v.oneCell'=true∧Rep w' g' xs[j] v:=λj hj=>ua j _ (hm j _ (Qc hj))
    have ja:xs.length<=cur.size:=by
     rcases Zu xs.length with h0|h0
     ·omega
     ·obtain⟨v,r1,_⟩:=ab (xs.length-1) O;have:=(QG.1 r1).1;omega
    refine .eptr xs ⟨b,0,none⟩ (λj=>cur.getD j undef) (λj hj=>?_) (λj hj=>?_) (λj d s=>?_) (λ_=>?_) n
    ·rw[EE,Qm];simp[World.cell?,a,Array.getD,show j<cur.size by omega]
    ·obtain⟨v,r1,r2,_⟩:=ab j hj;have:cur.getD j undef=v:=by simp[Zh,r1]
     rw[this];exact r2
    ·have hj:=(Qq.1 s).1;obtain⟨v,r1,_,r3⟩:=ab j hj;have q:cur.getD j undef=v:=by simp[Zh,r1]
     have t:xs[j]=d:=(Qq.1 s).2;rw[t]at r3;rw[q];exact r3.calm_to (n d (Qr s)) (λ_ _=>rfl) y
    ·simp only[Gh.glue,G'];rw[if_neg O,a];exact QR (by simpa using ja) (Zz ..)
  have hD:∀{d r:D} {v:Value},Rep w' g' d v->aPr m' d r->r.calm=true->Rep w' (g.glue w G') r v:=by
   intro d r v h hs hc;rcases hs with hs|⟨cs,xs,rfl,rfl,hL⟩
   ·exact hC h hs hc
   ·obtain⟨us,rfl,k1,k2,k3⟩:=aJ h;obtain⟨l1,l2⟩:=hL.get;refine .agg _ us (by rw[k1,l1]) k2 (λj x v n hv=>?_);have hj:j<cs.length:=by rw[l1];exact(Qq.1 n).1
    exact hC (k3 j _ v (Qc hj) hv) (l2 j _ x (Qc hj) n) (cE hc x (Qr n))
  refine⟨v,g.glue w G',rfl,hi.glue ka.below l,GR.glue hi.gz ka.below,?_,λi hf _=>hf⟩;rcases p with ⟨hc,hs⟩|⟨cs,xs,rfl,rfl,hL⟩
  ·exact hD ya hs hc
  ·obtain⟨us,rfl,k1,k2⟩:=ya.tup_inv;obtain⟨l1,l2⟩:=hL.get;refine .tup _ us (by rw[k1,l1]) (λj x v n hv=>?_);have hj:j<cs.length:=by rw[l1];exact(Qq.1 n).1
   simp only[D.calmR,Qt]at ga;exact hD (k2 j _ v (Qc hj) hv) (l2 j _ x (Qc hj) n) (ga x (Qr n))
 ·cases z
end
def aGs:D->Bool
 | .slice _ _ _=>true
 |_=>false
def EI:List D->Nat
 |[]=>0
 | .slice _ _ xs::r=>xs.length+EI r
 |_::r=>EI r
def cD:∀{L ys:List D},EM L=some ys->ys.length=EI L∧L.all aGs=true
 |[],ys,h=>by simp only[EM,Qb]at h;subst h;exact⟨rfl,rfl⟩
 |x::r,ys,h=>by
  unfold EM at h;split at h
  ·rename_i e;cases e
  ·rename_i nl t xs f e;cases e;rw[Ql]at h;obtain⟨zs,d,rfl⟩:=h;obtain⟨u,z⟩:=cD d;exact⟨by simp[EI,u],by simp[aGs,z]⟩
  ·cases h
def eA(sz:Nat)(d:D):Bool:=d.cells.length==sz
def gX{sz:Nat}{ys:List D}(h:ys.all (eA sz)=true):aF ys sz=sz:=by
 cases ys with
 |nil=>rfl
 |cons y r=>
  have:=Qt.1 h y (Q5 ..);simpa[aF,eA]using this
def aWr{n bytes:Nat}(r:bytes<=1000000)(c:n<=100000):n*(bytes+1)<=140737488355328:=QR (Nat.mul_le_mul c (Nat.succ_le_succ r)) O
def aAY{m:Gu}{e:Nat}{fr t:Id}{nl:Bool}{xs:List D}:GA.app m (A6 e fr (.slice nl t xs)) fr 0=some (.tok (e+1)):=by
 cases nl<;>simp[A6,GA.app,Bk]
def Lw(pt:Nat):DC:=(.seq (.row [⟨some 12,.bin .lss (.t 11) (.t 10),[],none⟩]) (.seq (.cond (.t 12) .skip (.exit 0)) (.seq (.block 1 (.seq (.row [⟨some 13,.iaddr 1 (.t 9) (.t 11),[],none⟩,⟨some 14,.load none (.t 13),[],none⟩,⟨some 5,.mv (.t 14),[],none⟩]) (.seq (.row [⟨some 15,.mv (.t 3),[],none⟩,⟨some 16,.mv (.t 5),[],none⟩,⟨some 17,.len false (.t 16),[],none⟩,⟨some 18,.bin .add (.t 15) (.t 17),[],none⟩,⟨some 3,.mv (.t 18),[],none⟩]) (.seq (.row [⟨some 19,.mv (.t 3),[],none⟩,⟨some 20,.bin .lss (.t 19) (.c (.int .i64 0)),[],none⟩]) (.cond (.t 20) (.row [⟨some 21,.mkif pt (.c (.str [108,101,110,32,111,117,116,32,111,102,32,114,97,110,103,101])),[],none⟩,⟨none,.stop,[],none⟩]) .skip))))) (.row [⟨some 22,.bin .add (.t 11) (.c (.int .i64 1)),[],none⟩,⟨some 11,.mv (.t 22),[],none⟩]))))
def Lv(e sz bytes:Nat):DC:=(.seq (.row [⟨some 28,.bin .lss (.t 27) (.t 26),[],none⟩]) (.seq (.cond (.t 28) .skip (.exit 2)) (.seq (.block 3 (.seq (.row [⟨some 29,.iaddr 1 (.t 25) (.t 27),[],none⟩,⟨some 30,.load none (.t 29),[],none⟩,⟨some 8,.mv (.t 30),[],none⟩]) (.row [⟨some 31,.mv (.t 6),[],none⟩,⟨some 32,.mv (.t 8),[],none⟩,⟨some 33,.app e sz bytes (.t 31) (.t 32),[],none⟩,⟨some 6,.mv (.t 33),[],none⟩]))) (.row [⟨some 34,.bin .add (.t 27) (.c (.int .i64 1)),[],none⟩,⟨some 27,.mv (.t 34),[],none⟩]))))
def FS(pt e sz bytes gf:Nat):DC:=(.seq (.row [⟨some 2,.mv (.c (.slice true [] [])),[],none⟩]) (.seq (.row [⟨some 3,.mv (.c (.int .i64 0)),[],none⟩]) (.seq (.seq (.row [⟨some 9,.mv (.t 0),[],none⟩,⟨some 10,.len false (.t 9),[],none⟩,⟨some 11,.mv (.c (.int .i64 0)),[],none⟩]) (.block 0 (.loop (Lw pt)))) (.seq (.row [⟨some 23,.mv (.t 3),[],none⟩,⟨some 24,.call (.c (.fn gf [])) [(.c (.slice true [] [])),(.t 23)],[],none⟩,⟨some 6,.mv (.t 24),[],none⟩]) (.seq (.seq (.row [⟨some 25,.mv (.t 0),[],none⟩,⟨some 26,.len false (.t 25),[],none⟩,⟨some 27,.mv (.c (.int .i64 0)),[],none⟩]) (.block 2 (.loop (Lv e sz bytes)))) (.seq (.row [⟨some 35,.mv (.t 6),[],none⟩,⟨some 2,.mv (.t 35),[],none⟩]) .ret))))))
def aAa{pt:Nat}{S:Gq}{ns:Id}{L:List D}{nl:Bool}{t:Id}{Q:Ex->St->Prop}(o:L.length<=1000)(z:L.all aGs=true)
  (j:∀(y:St),y.s 0= .slice nl t L->y.s 3= .int .i64 (EI L:Nat)->Q (.exit 0) y):
  ∀(R:List D)(k a:Nat) y g,L.drop k=R->k<=L.length->a+EI R=EI L->EI L<=1000000->y.s 0= .slice nl t L->y.s 9= .slice nl t L->y.s 10= .int .i64 (L.length:Nat)->y.s 11= .int .i64 (k:Nat)->y.s 3= .int .i64 (a:Nat)->
   A5 S ns (Lw pt) Q y g:=by
 intro R;induction R with
 |nil=>
  intro k a y g r hk p w f n e u i;refine Af (Lw.eq_1 pt) ?_;have v:L.length<=k:=Xz
  have:¬((k:Int)<L.length):=O
  simp only[↓C2,Gy,GI,reduceIte,Qe,e,u,this];refine j _ ?_ ?_
  ·simp only[↓C2,reduceIte,Qd,f]
  ·simp only[↓C2,reduceIte,Qd,i];simp only[EI]at p;rw[←p];rfl
 |cons x R ih=>
  intro k a y g r hk p w f n e u i;refine Af (Lw.eq_1 pt) ?_;have oa:k<L.length:=by
   grind
  have qa:L[k]?=some x:=by
   have:=congrArg (·[0]?) r;simpa using this
  have q:aGs x=true:=Qt.1 z x (Qr qa);have wa:L.drop (k+1)=R:=by
   rw[←ZE,r];rfl
  match x,q with
  | .slice nl' t' xs,_=>
   have ea:((k:Int)<L.length):=O
   have m:(0:Int)<=(k:Int):=O
   have c:L[(k:Int).toNat]?=some (.slice nl' t' xs):=by simpa using qa
   simp only[EI]at p;have w1:IntKind.i64.wrap ((a:Int)+(xs.length:Int))=((a+xs.length:Nat):Int):=Yj
   have w2:IntKind.i64.wrap ((k:Int)+1)=((k+1:Nat):Int):=Yj
   have b:¬(((a+xs.length:Nat):Int)<0):=O
   simp only[↓C2,Gt,reduceIte,Qd,Qe,n,e,u,i,ea,m,c,w1,w2,b];exact ih (k+1) (a+xs.length) _ _ wa O O w f n e rfl rfl
def zZ{e sz bytes:Nat}(q:bytes<=1000000){S:Gq}{ns:Id}{L:List D}{nl0:Bool}{t0:Id}{Q:Ex->St->Prop}(o:L.length<=1000)
  (w:∀(y:St)(nl:Bool)(t:Id)(ys:List D),EM L=some ys->y.s 6= .slice nl t ys->(nl=true->ys=[])->Iw y.m e (.slice nl t ys)->Q (.exit 2) y):
  ∀(R:List D)(k:Nat)(n zs:List D)(nl:Bool)(t:Id) y g,L.drop k=R->k<=L.length->EM R=some zs->EM L=some (n++zs)->(n++zs).all (eA sz)=true->(n++zs).length<=100000->
   (nl=true->n=[])->Iw y.m e (.slice nl t n)->
   y.s 6= .slice nl t n->y.s 25= .slice nl0 t0 L->y.s 26= .int .i64 (L.length:Nat)->y.s 27= .int .i64 (k:Nat)->
   A5 S ns (Lv e sz bytes) Q y g:=by
 intro R;induction R with
 |nil=>
  intro k n zs nl t y g hd hk f hL a j u ka h6 z b p;refine Af (Lv.eq_1 e sz bytes) ?_;have r:L.length<=k:=by simpa using hd
  have:¬((k:Int)<L.length):=O
  simp only[EM,Qb]at f;subst f;simp only[↓C2,Gy,GI,reduceIte,Qe,b,p,this];refine w _ nl t n (by simpa using hL) ?_ u ka;simp only[↓C2,reduceIte,Qd,h6]
 |cons x R ih=>
  intro k n zs nl t y g hd hk f hL a j u ka h6 z b p;refine Af (Lv.eq_1 e sz bytes) ?_;have i:k<L.length:=by
   grind
  have qa:L[k]?=some x:=by
   have:=congrArg (·[0]?) hd;simpa using this
  have wa:L.drop (k+1)=R:=by
   rw[←ZE,hd];rfl
  unfold EM at f;split at f
  ·rename_i la;cases la
  ·rename_i nl' t' xs R' la;cases la;rw[Ql]at f;obtain⟨d,na,rfl⟩:=f;have ea:((k:Int)<L.length):=by omega
   have sa:(0:Int)<=(k:Int):=O
   have c:L[(k:Int).toNat]?=some (.slice nl' t' xs):=by simpa using qa
   have w2:IntKind.i64.wrap ((k:Int)+1)=((k+1:Nat):Int):=Yj
   simp only[↓C2,Gt,reduceIte,Qd,Qe,h6,z,b,p,ea,sa,c];have v:(if nl=true then xs else n++xs)=n++xs:=BM u;refine aG (λhc=>?_) (λhc=>?_)
   ·obtain⟨rfl,rfl⟩:=hc;obtain rfl:=u rfl;simp only[↓C2,Gy,He,reduceIte,Qd,Qe,p,w2];exact ih (k+1) [] d true [] _ _ wa O na (by simpa using hL) XL (by simpa using j) (λ_=>rfl) (.inl rfl) rfl z b rfl
   ·have eb:xs.all (eA sz)=true:=by
     rw[Zs,Zs]at a;simp only[Q3]at a;exact a.2.1
    refine aB ⟨aWr q (by simp only[Q6]at j;omega),gX eb,ka⟩ ?_;rw[v];simp only[↓C2,Gy,He,reduceIte,Qd,Qe,p,w2];refine ih (k+1) (n++xs) d false _ _ _ wa O na (by simpa using hL) XL (by simpa using j) (λh=>Xc) (.inr ⟨aAY,U⟩) rfl z b rfl
  ·cases f
def Tc(sz:Nat):List D->Option (List D)
 |[.slice _ _ L]=>match EM L with
  |some ys=>if L.length<=1000∧0<ys.length∧ys.length<=100000∧ys.all (eA sz)=true then some ys else none
  |none=>none
 |_=>none
def PT{P:Program}{f gf pt e sz bytes:Nat}(r:bytes<=1000000){S:Gq}(j:S gf=some (Dq e)){L ys:List D}{nl:Bool}{t:Id}(w:EM L=some ys)(c1:L.length<=1000)(u:0<ys.length)(a:ys.length<=100000)(k:ys.all (eA sz)=true)
  {R:D->Gu->Prop} (hR:∀t m,Iw m e (.slice false t ys)->R (.slice false t ys) m):(FS pt e sz bytes gf).wp S [] (DM [.t 2] R) ⟨Bv [.slice nl t L],λ_ _=>none,0⟩:=by
 obtain⟨hl,g⟩:=cD w;unfold FS;simp only[↓C2,Gy,reduceIte,Qd,Qe];refine aAa c1 g (λy q i=>?_) L 0 0 _ _ rfl O U O rfl rfl rfl rfl rfl;simp only[↓C2,Gy,GI,reduceIte,Qe,i];rw[AD j];have p:(Dq e).ex ([D.slice true [] [],D.int IntKind.i64 (EI L:Nat)]++[]) y.m [y.c+1]=some (.slice false [0,y.c+1] [],[([0,y.c+1],0,[.tok (e+1)])]):=by
  grind [Dq]
 refine aI p ?_;simp only[↓C2,Gy,reduceIte,Qd,Qe,q];refine zZ r c1 (λx nl' s zs d b o v=>?_) L 0 [] ys false _ _ _ rfl O w (by simpa using w) (by simpa using k) XL (λh=>Xc) (.inr ⟨?_,U⟩) rfl q rfl rfl
 ·rw[w]at d;simp only[Qb]at d;subst d;have n:nl'=false:=by
   grind
  subst n;simp only[↓C2,Gy,reduceIte,Qd,Qe,b];exact hR _ _ v
 ·simp[Bk]
section
variable{P:Program}{f gf pt e sz bytes:Nat}
def Rn{ds ys:List D}(h:Tc sz ds=some ys):∃nl t L,ds=[.slice nl t L]∧EM L=some ys∧L.length<=1000∧0<ys.length∧ys.length<=100000∧ys.all (eA sz)=true:=by
 unfold Tc at h;split at h
 ·grind
 ·cases h
def gS(gf e:Nat):Gq:=λf=>if f=gf then some (Dq e)else none
def aJZ(p:(Dq e).ok P gf):Gq.ok P (gS gf e):=by
 intro f q h;unfold gS at h;split at h
 ·simp_all
 ·cases h
def aGU(k:Fn P f 36 (FS pt e sz bytes gf) [.t 2])(s:bytes<=1000000)(p:(Dq e).ok P gf):(H1 λds=>(Tc sz ds).bind λys=>if(flat ys).all D.plain=true then some ys else none).ok P f:=by
 refine yS (aJZ p) k (λds r h=>?_) (λds r h=>?_)
 ·rw[QC]at h;obtain⟨ys,h,_⟩:=h;obtain⟨nl,t,L,rfl,_⟩:=Rn h;simp
 ·rw[QC]at h;obtain⟨ys,h,z⟩:=h;split at z
  ·rename_i y;simp only[Qb]at z;subst z;obtain⟨nl,t,L,rfl,b,c1,c2,a,n⟩:=Rn h;refine⟨λx q=>Qt.1 y x q,PT (P:=P) (f:=f) s (by simp[gS]) b c1 c2 a n λt m v=>?_⟩;rcases v with h|⟨u,z⟩
   ·cases h
   ·exact⟨t,e,rfl,z,u⟩
  ·cases z
def nM(k:Fn P f 36 (FS pt e sz bytes gf) [.t 2])(s:bytes<=1000000)(p:(Dq e).ok P gf){F:List D->Option D}
  (z:∀ds r,F ds=some r->∃nl t L ys,ds=[.slice nl t L]∧EM L=some ys∧L.length<=1000∧0<ys.length∧ys.length<=100000∧ys.all (eA sz)=true∧r= .slice false [] ys):(Ac F).ok P f:=by
 refine AK (aJZ p) k (λds r h=>?_) (λds r h=>?_)
 ·grind
 ·obtain⟨nl,t,L,ys,rfl,b,c1,u,a,n,rfl⟩:=z ds r h;exact PT (P:=P) (f:=f) s (by simp[gS]) b c1 u a n λt m v=>⟨rfl,rfl⟩
end
def Fm(n:Nat):UInt8:=if n<10 then UInt8.ofNat (48+n)else UInt8.ofNat (87+n)
def ER(s:List UInt8):List UInt8:=s.flatMap λb=>[Fm (b.toNat / 16),Fm (b.toNat % 16)]
theorem DY:∀s:List UInt8,(ER s).length=2*s.length
 |[]=>rfl
 |b::r=>by
  have:=DY r;simp only[ER,List.flatMap_cons,Q6,Qh,Qk]at this ⊢;omega
def DL(a b:List UInt8):Ax (a++b)=Ax a++Ax b:=by simp[Ax]
def BL(a:List UInt8):(Ax a).length=a.length:=by simp[Ax]
def Cd:∀a:List UInt8,Bp (Ax a)=some a
 |[]=>rfl
 |c::r=>by
  have h:=c.toNat_lt;show(Bp (Ax r)).map _=_;rw[Cd r];simp
def PC:∀n,n<16->([48,49,50,51,52,53,54,55,56,57,97,98,99,100,101,102]:List UInt8)[n]?=some (Fm n):=Xl
def aUF:∀n:Nat,n<256->bits .and .u8 (n:Int) 15=((n % 16:Nat):Int):=Xl
def aVC:∀n:Nat,n<256->(n:Int).fdiv (2 ^ min (4:Int).toNat IntKind.u8.bits)=((n / 16:Nat):Int):=Xl
def rH(s:List UInt8)(c:UInt8):ER (s++[c])=ER s++[Fm (c.toNat / 16),Fm (c.toNat % 16)]:=by simp[ER]
def Cr:List (List UInt8)->Nat
 |[]=>0
 |w::r=>w.length+Cr r
def Rq(m:Gu)(i:Id):Nat->Nat->Option (List (List UInt8))
 |0,_=>some []
 |f+1,j=>match m i j,Rq m i f (j+1)with
  |some (.str p),some l=>some (p::l)
  |_,_=>none
def R7{m:Gu}{i:Id}:∀{f j:Nat} {xs:List (List UInt8)},Rq m i f j=some xs->xs.length=f∧∀k x,xs[k]?=some x->m i (j+k)=some (.str x)
 |0,j,xs,h=>by
  simp only[Rq,Qb]at h;subst h;exact⟨rfl,U⟩
 |f+1,j,xs,h=>by
  unfold Rq at h;split at h
  ·rename_i p l w y;simp only[Qb]at h;subst h;obtain⟨t,e⟩:=R7 y;refine⟨by simp[t],λk x q=>?_⟩;cases k with
   |zero=>simp only[Qg,Qb]at q;subst q;exact w
   |succ k=>
    have:=e k x Xu;rw[show j+1+k=j+(k+1)by omega]at this;exact this
  ·cases h
def VD{m m':Gu}{i:Id}:∀{f j n:Nat},j+f<=n->(∀o,o<n->m i o=m' i o)->Rq m i f j=Rq m' i f j
 |0,j,n,_,_=>rfl
 |f+1,j,n,hn,h=>by
  unfold Rq;rw[h j O,VD (f:=f) (j:=j+1) O h]
def kW{m:Gu}{i:Id}:∀{xs:List (List UInt8)} {j:Nat},(∀k x,xs[k]?=some x->m i (j+k)=some (.str x))->Rq m i xs.length j=some xs
 |[],j,_=>rfl
 |x::r,j,h=>by
  have f:=h 0 x rfl;have n:=kW (xs:=r) (j:=j+1) (λk y s=>by have:=h (k+1) y (by simpa using s);rw[show j+1+k=j+(k+1)by omega];exact this);simp only[Qh,Rq,Q8]at f ⊢;rw[f,n]
def Cw:List (List UInt8)->List UInt8
 |[]=>[]
 |[w]=>w
 |w::v::r=>w++44::Cw (v::r)
def FM:∀l:List (List UInt8),(Cw l).length<=Cr l+l.length
 |[]=>by simp[Cw]
 |[w]=>by simp[Cw,Cr]
 |w::v::r=>by
  have:=FM (v::r);simp only[Cw,Q6,Qh,Cr]at this ⊢;omega
def Pz:∀l:List (List UInt8),Lib.join l [44]=Cw l
 |[]=>rfl
 |[w]=>Lib.join_one w [44]
 |w::v::r=>by
  have ih:=Pz (v::r);rw[Lib.join_cons]at ih;rw[Lib.join_cons,Cw,←ih];simp[Lib.joinTail]
def SF:G_ where
 rd:=λds _=>match ds with
  |[.row i n,_]=>(List.range n).map λo=>(i,o)
  |_=>[]
 ex:=λds m _=>match ds with
  |[.row i n,.str [44]]=>(Rq m i n 0).bind λl=>if l.length<=1000∧Cr l<=1000000 then some (.str (Cw l),[])else none
  |_=>none
def aAH {P:Program} {ρ:Go.Shelf.Ren} (L:Go.Proofs.Lays.n156 P ρ) (X:Go.Proofs.Builder.Extra P ρ) (va:∃fn,P.funcs[ρ.f 156]?=some fn∧fn.body.isSome=true∧(fn.name== "runtime.NumGoroutine")=false):SF.ok P (ρ.f 156):=by
 refine⟨va,λds m m' fr h=>?_,?_⟩
 ·simp only[SF]at h ⊢;split
  ·rename_i i n;simp only at h;rw[VD (m:=m) (m':=m') (n:=n) O λo ho=>h (i,o) (QZ.2 ⟨o,by simpa using ho,rfl⟩)]
  ·rfl
 intro B w0 w m g fr ds vs r u hi fa hl s y;simp only[SF]at y;split at y
 ·rename_i i n;rw[QC]at y;obtain⟨l,oa,y⟩:=y;split at y
  ·rename_i hc;obtain⟨c1,c2⟩:=hc;simp only[Qb,Qs]at y;obtain⟨rfl,rfl⟩:=y
   match vs,hl with
   |[v,v1],_=>
    have h0:=s 0 _ v rfl rfl;have q:=s 1 _ v1 rfl rfl;rw[q.str_inv];obtain⟨b,c,rfl,za,hb⟩:=h0.row_inv;obtain⟨qa,ka⟩:=R7 oa;obtain⟨mb,kb,cur,T,a,ua⟩:=hi.obj i b hb;have p:∀(j:Nat) z,l[j]?=some z->w.cell? ⟨b,0+j,none⟩=some (.string ⟨z.toArray⟩):=by
     intro j z hz;have hm:=ka j z hz;rw[Qm]at hm;obtain⟨v',r1,r2,r3⟩:=ua j _ hm;rw[r3.str_inv]at r1;simp[World.cell?,a,r1]
    have k:(l.map λx=>(⟨x.toArray⟩:ByteArray)).map (·.data.toList)=l:=Yu
    have t:(⟨#[44]⟩:ByteArray).data.toList=[44]:=rfl;have wa:=FM l;have:=Go.Proofs.Any.strings_Join L X b 0 c (l.map λx=>(⟨x.toArray⟩:ByteArray)) ⟨#[44]⟩ w (λj x d=>by
     rw[QN,Ql]at d;obtain⟨z,hz,rfl⟩:=d;exact p j z hz) (hi.lt hb) Xb Xb (by rw[k,t,Pz];omega)
    rw[k,t,Pz,Qy,qa]at this;refine this.mono ?_;rintro ev w' ⟨rfl,hb⟩;exact⟨_,g.over w w',rfl,hi.over hb,GR.over hi.gz hb,.str _,λi e _=>e⟩
  ·cases y
 ·cases y
section
variable{P:Program}{B:Nat}{w0:World}{N:Nat}{ns:Id}{S:Gq}{t:Nat}
end
section
variable{P:Program}{S:Gq}{f:FuncId}{N:Nat}{dc a b:DC}{rs:List RV}{code:Code}
end
section
variable{P:Program}{B:Nat}{w0 w:World}{m:Gu}{g g0:Gh}{N:Nat}
end
section
variable{P:Program}{B:Nat}{w0:World}{N:Nat}{S:Gq}
end
def BK(m:Gu)(e:Nat)(nl:Bool)(t:Id)(emp:Bool):Bool:=
 if nl=true then emp else match m t 0 with
  |some (.tok k)=>k==e+1&&!t.isEmpty
  |_=>false
def PF{m:Gu}{e:Nat}{nl:Bool}{t:Id}{emp:Bool}{xs:List D}(h:BK m e nl t emp=true):Iw m e (.slice nl t xs):=by
 unfold BK at h;split at h
 ·rename_i f;exact .inl f
 ·split at h
  ·rename_i k w;simp only[Q3,beq_iff_eq]at h;rw[h.1]at w;exact .inr ⟨w,by intro e;rw[e]at h;simp at h⟩
  ·cases h
theorem DZ{m m':Gu}{e:Nat}{nl:Bool}{t:Id}{emp:Bool}(h:m t 0=m' t 0):BK m e nl t emp=BK m' e nl t emp:=by
 unfold BK;rw[h]
def WS{m m':Gu}{e:Nat}{nl:Bool}{t:Id}{emp:Bool}{xs:List D}(h:BK m e nl t emp=true)(w:nl=false->m t 0=some (.tok (e+1))->m' t 0=m t 0):Iw m' e (.slice nl t xs):=by
 rcases PF (xs:=xs) h with h0|⟨u,z⟩
 ·exact .inl h0
 ·cases nl with
  |true=>exact .inl rfl
  |false=>exact .inr ⟨by rw[w rfl u];exact u,z⟩
def Et{m:Gu}{e:Nat}{nl:Bool}{t:Id}{emp:Bool}(h:BK m e nl t emp=true):nl=false->m t 0=some (.tok (e+1)):=by
 rintro rfl;rcases PF (xs:=[]) h with h0|⟨u,z⟩
 ·cases h0
 ·exact u
theorem CP{m:Gu}{e:Nat}{f t i:Id}{nl:Bool}{xs:List D}{o:Nat}:GA.app m (A6 e f (.slice nl t xs)) i o=if i=f∧o=0 then some (.tok (e+1))else if nl=false∧i=t∧o=0 then some (.tok 0)else m i o:=by
 cases nl<;>simp[A6,GA.app,Bk]
def HN{n:Nat}(h:n<256):(UInt8.ofNat n).toNat=n:=by simp[UInt8.toNat_ofNat'];omega
def Th(n:Int):IntKind.u8.wrap n=(((n % 256).toNat:Nat):Int):=by
 have u:IntKind.u8.wrap n=n % 256:=Yv
 rw[u];omega
structure Gd (e:Nat) (fr:Id) (m0:Gu) (nl0:Bool) (t0:Id) (m:Gu) (c:Nat) (t:Id):Prop where
 name:∃l j,t=l++j::fr∧j<c
 tok:m t 0=some (.tok (e+1))
 out:∀i o,¬fr<:+i->m i o=(if nl0=true then m0 else m0.put t0 0 [.tok 0]) i o
def Gs(e:Nat)(fr:Id)(m0:Gu)(nl0:Bool)(t0:Id)(m:Gu)(c:Nat)(nl:Bool)(t:Id):Prop:=
 (nl=nl0∧t=t0∧∀i o,¬fr<:+i->m i o=m0 i o)∨(nl=false∧Gd e fr m0 nl0 t0 m c t)
def eQ(l:List Nat)(j:Nat)(fr:Id):fr<:+l++j::fr:=⟨l++[j],U⟩
theorem aSK{l q:List Nat}{j k:Nat}{fr:Id}(h:j≠k):l++j::fr≠q++k::fr:=by
 intro e;have n:=congrArg List.reverse e;simp only[List.reverse_append,List.reverse_cons,Zc,List.append_cancel_left_eq]at n;simp only[Zd,Q_,Qn]at n;exact h n.1
section
variable{e:Nat}{fr:Id}{m0 m:Gu}{nl0 nl:Bool}{t0 t:Id}{c c' k o:Nat}{l:List Nat}{xs ds:List D}{emp:Bool}
def Gs.start:Gs e fr m0 nl0 t0 m0 c nl0 t0:= .inl ⟨rfl,rfl,λ_ _ _=>rfl⟩
def Gd.gs(h:Gd e fr m0 nl0 t0 m c t):Gs e fr m0 nl0 t0 m c false t:= .inr ⟨rfl,h⟩
def Gd.more(h:Gd e fr m0 nl0 t0 m c t)(y:c<=c'):Gd e fr m0 nl0 t0 m c' t:=⟨by obtain⟨l,j,b,v⟩:=h.name;exact⟨l,j,b,O⟩,h.tok,h.out⟩
def Gs.more(h:Gs e fr m0 nl0 t0 m c nl t)(y:c<=c'):Gs e fr m0 nl0 t0 m c' nl t:=h.imp id (λ⟨a,b⟩=>⟨a,b.more y⟩)
def lP(n:∀i o,fr<:+i->m0 i o=none)(h:m0 t0 0=some (.tok (e+1))):¬fr<:+t0:=λg=>by rw[n _ _ g]at h;cases h
def TO(i:Id)(o':Nat)(hi:¬fr<:+i):m.put (l++k::fr) o ds i o'=m i o':=aA (λe=>hi (e▸eQ l k fr))
def Gd.put(h:Gd e fr m0 nl0 t0 m c t)(g:c<=k:=by omega):Gd e fr m0 nl0 t0 (m.put (l++k::fr) o ds) c t:=by
 refine⟨h.name,?_,λi o' hi=>(TO i o' hi).trans (h.out i o' hi)⟩;obtain⟨q,j,b,v⟩:=h.name;rw[aA]
 ·exact h.tok
 ·grind [aSK]
def Gs.put(h:Gs e fr m0 nl0 t0 m c nl t)(g:c<=k:=by omega):Gs e fr m0 nl0 t0 (m.put (l++k::fr) o ds) c nl t:=by
 rcases h with ⟨a,b,d⟩|⟨a,h⟩
 ·exact .inl ⟨a,b,λi o' hi=>(TO i o' hi).trans (d i o' hi)⟩
 ·exact .inr ⟨a,h.put g⟩
def Gs.grow(h:Gs e fr m0 nl0 t0 m c nl t)(n:∀i o,fr<:+i->m0 i o=none)(f:BK m0 e nl0 t0 emp=true):Iw m e (.slice nl t xs):=by
 rcases h with ⟨rfl,rfl,d⟩|⟨a,h⟩
 ·exact WS f (λw y=>d _ _ (lP n y))
 ·obtain⟨q,j,b,v⟩:=h.name;exact .inr ⟨h.tok,by rw[b];simp⟩
def Gs.nil(h:Gs e fr m0 nl0 t0 m c nl t)(f:BK m0 e nl0 t0 emp=true):nl=true->emp=true:=by
 rcases h with ⟨rfl,rfl,d⟩|⟨a,_⟩
 ·grind [BK]
 ·rw[a];intro h;cases h
def Gs.app(h:Gs e fr m0 nl0 t0 m c nl t)(p:c<=k)(f:k<c'):Gd e fr m0 nl0 t0 (GA.app m (A6 e (l++k::fr) (.slice nl t xs))) c' (l++k::fr):=by
 refine⟨⟨l,k,rfl,f⟩,by rw[CP,if_pos ⟨rfl,rfl⟩],λi o hi=>?_⟩;have w:i≠l++k::fr:=λe=>hi (e▸eQ l k fr)
 rw[CP,if_neg (λx=>w x.1)];rcases h with ⟨rfl,rfl,d⟩|⟨rfl,h⟩
 ·grind [Bk]
 ·obtain⟨q,j,b,v⟩:=h.name;have g:i≠t:=λe=>hi (by rw[e,b];exact eQ q j fr)
  rw[if_neg (λx=>g x.2.1)];exact h.out i o hi
def Gd.fin(h:Gd e fr m0 nl0 t0 m c t)(n:∀i o,fr<:+i->m0 i o=none)(f:BK m0 e nl0 t0 emp=true):∀i o x,GA.app m0 (A6 e t (.slice nl0 t0 xs)) i o=some x->m i o=some x:=by
 intro i o x q;rw[CP]at q;by_cases u:i=t∧o=0
 ·rw[if_pos u]at q;rw[u.1,u.2,h.tok];exact q
 ·rw[if_neg u]at q;by_cases z:nl0=false∧i=t0∧o=0
  ·obtain⟨rfl,rfl,rfl⟩:=z;rw[if_pos ⟨rfl,rfl,rfl⟩]at q;rw[h.out _ _ (lP n (Et f rfl)),if_neg U,Bk,if_pos ⟨rfl,rfl⟩];exact q
  ·rw[if_neg z]at q;by_cases hi:fr<:+i
   ·simp_all
   ·rw[h.out i o hi];cases nl0 with
    |true=>exact q
    |false=>simp only[QS,if_false,Bk];rw[if_neg (λx=>z ⟨rfl,x⟩)];exact q
end
def IK{P:Program}{S:Gq}{f:FuncId}{N:Nat}{dc:DC}{rs:List RV}(hS:Gq.ok P S)(hf:Fn P f N dc rs){q:G_}(ea:∀ds m m' fr,(∀l∈q.rd ds m,m l.1 l.2=m' l.1 l.2)->q.ex ds m fr=q.ex ds m' fr)
  (hq:∀ds m fr r u,q.ex ds m fr=some (r,u)->(∀i o,fr<:+i->m i o=none)->ds.length<=N∧dc.wp S fr (DM rs λd m'=>d=r∧∀i o x,GA.app m u i o=some x->m' i o=some x) ⟨Bv ds,m,0⟩):q.ok P f:=by
 obtain⟨fn,j,h1,h2,y,h4,h5,h6⟩:=hf.is;refine⟨⟨fn,h1,by rw[h2];rfl,y⟩,ea,?_⟩;intro B w0 w m g fr ds vs r u hi p hl c z;have n:∀k i,(k::fr)<:+i->BN m g i:=λk i h=>p i ((QI k fr).trans h)
 obtain⟨hN,za⟩:=hq ds m fr r u z (λi o h=>(p i h).1 o);have oa:=FU (ns:=fr) hS hf hN hi n hl c za;refine oa.mono ?_;rintro e s ⟨v,d,m',g',rfl,ka,b,t,ya,rfl,sa⟩;refine⟨v,g',rfl,ka.less sa,b,ya,λi hf a=>?_⟩;obtain⟨k1,k2,k3⟩:=t i hf a;refine⟨λo=>?_,k2,k3⟩;cases hx:GA.app m u i o with
 |none=>rfl
 |some x=>exact absurd (k1 o) (by rw[sa i o x hx];simp)
def gQ(e:Nat)(F:List D->Option (List D×List Nat)):G_ where
 rd:=λds _=>match ds with
  | .slice _ t _::_=>[(t,0)]
  |_=>[]
 ex:=λds m fr=>match ds with
  | .slice nl t xs::rest=>if BK m e nl t xs.isEmpty=true∧xs.length<=100000000 then(F rest).map λy=>(.slice false (y.2++fr) (xs++y.1),A6 e (y.2++fr) (.slice nl t xs))else none
  |_=>none
def aOR{e:Nat}{F:List D->Option (List D×List Nat)}(ds:List D)(m m':Gu)(fr:Id)(h:∀l∈(gQ e F).rd ds m,m l.1 l.2=m' l.1 l.2):(gQ e F).ex ds m fr=(gQ e F).ex ds m' fr:=by
 simp only[gQ]at h ⊢;split
 ·rename_i nl t xs v;rw[DZ (h (t,0) U)]
 ·rfl
def aOS{e:Nat}{F:List D->Option (List D×List Nat)}{ds:List D}{m:Gu}{fr:Id}{d:D}{u:GA}(h:(gQ e F).ex ds m fr=some (d,u)):
  ∃nl t xs v ys l,ds= .slice nl t xs::v∧BK m e nl t xs.isEmpty=true∧xs.length<=100000000∧F v=some (ys,l)∧d= .slice false (l++fr) (xs++ys)∧u=A6 e (l++fr) (.slice nl t xs):=by
 simp only[gQ]at h;split at h
 ·rename_i nl t xs v;split at h
  ·rename_i g;rw[Ql]at h;obtain⟨⟨ys,l⟩,z,h⟩:=h;simp only[Qs]at h;exact⟨nl,t,xs,v,ys,l,rfl,g.1,g.2,z,h.1.symm,h.2.symm⟩
  ·cases h
 ·cases h
def aJX{e:Nat}{F:List D->Option (List D×List Nat)}{m:Gu}{fr:Id}{nl:Bool}{t:Id}{xs v ys:List D}{l:List Nat}{K:D×GA->Prop}{g}(h0:Iw m e (.slice nl t xs))(c:nl=true->xs=[])(hl:xs.length<=100000000)(q:F v=some (ys,l))
  (h:K (.slice false (l++fr) (xs++ys),A6 e (l++fr) (.slice nl t xs))):GL ((gQ e F).ex (.slice nl t xs::v) m fr) K g:=by
 refine aI ?_ h;have p:BK m e nl t xs.isEmpty=true:=by
  unfold BK;cases nl with
  |true=>rw[if_pos rfl,c rfl];rfl
  |false=>
   rcases h0 with h0|⟨u,z⟩
   ·cases h0
   ·simp_all
 simp only[gQ];rw[if_pos ⟨p,hl⟩,q];rfl
def eD:Nat->Int->List UInt8
 |0,_=>[]
 |k+1,n=>UInt8.ofNat ((n.fdiv (2 ^ (8*k))) % 256).toNat::eD k n
theorem beB_len:∀k n,(eD k n).length=k
 |0,_=>rfl
 |k+1,n=>by simp[eD,beB_len k n]
def Gc:D->Bool
 | .int .u8 _=>true
 |_=>false
def grownQ:G_ where
 rd:=λ_ _=>[]
 ex:=λds _ fr=>match ds with
  |[.slice _ _ xs,.int .i64 k]=>if 0<=k∧xs.all Gc=true∧(xs.length:Int)+k<=140737488355328 then some (.slice false (0::fr) xs,[(0::fr,0,[.tok 6])])else none
  |_=>none
def cQ(e:Nat)(p:D->D)(F:List D->Option (List D×List Nat)):G_ where
 rd:=λ_ _=>[]
 ex:=λds _ fr=>match ds with
  | .slice _ _ xs::rest=>if xs.all Gc=true∧xs.length<=100000000 then(F rest).map λy=>(p (.slice false (y.2++fr) (xs++y.1)),[(y.2++fr,0,[.tok (e+1)])])else none
  |_=>none
def aPe{e:Nat}{p:D->D}{F:List D->Option (List D×List Nat)}{ds:List D}{m:Gu}{fr:Id}{d:D}{u:GA}(h:(cQ e p F).ex ds m fr=some (d,u)):
  ∃nl t xs v ys l,ds= .slice nl t xs::v∧xs.all Gc=true∧xs.length<=100000000∧F v=some (ys,l)∧d=p (.slice false (l++fr) (xs++ys))∧u=[(l++fr,0,[.tok (e+1)])]:=by
 simp only[cQ]at h;split at h
 ·rename_i nl t xs v;split at h
  ·rename_i g;rw[Ql]at h;obtain⟨⟨ys,l⟩,z,h⟩:=h;simp only[Qs]at h;exact⟨nl,t,xs,v,ys,l,rfl,g.1,g.2,z,h.1.symm,h.2.symm⟩
  ·cases h
 ·cases h
def aJY{e:Nat}{p:D->D}{F:List D->Option (List D×List Nat)}{m:Gu}{fr:Id}{nl:Bool}{t:Id}{xs v ys:List D}{l:List Nat}{K:D×GA->Prop}{g}(x:xs.all Gc=true)(hl:xs.length<=100000000)(z:F v=some (ys,l))
  (h:K (p (.slice false (l++fr) (xs++ys)),[(l++fr,0,[.tok (e+1)])])):GL ((cQ e p F).ex (.slice nl t xs::v) m fr) K g:=by
 refine aI ?_ h;simp only[cQ];rw[if_pos ⟨x,hl⟩,z];rfl
def SW(a:List UInt8):(Ax a).all Gc=true:=by
 rw[Qt];intro x q;obtain⟨c,_,rfl⟩:=QZ.1 q;rfl
def Gd.finc{e:Nat}{fr:Id}{m0 m:Gu}{t0 t:Id}{c:Nat}(h:Gd e fr m0 true t0 m c t)(n:∀i o,fr<:+i->m0 i o=none):∀i o x,GA.app m0 [(t,0,[.tok (e+1)])] i o=some x->m i o=some x:=
 h.fin (emp:=true) (xs:=[]) n (by unfold BK;rfl)
def aAW{m:Gu}{fr:Id}{nl:Bool}{t:Id}{xs:List D}{k:Int}(g:0<=k)(x:xs.all Gc=true)(hl:(xs.length:Int)+k<=140737488355328):grownQ.ex [.slice nl t xs,.int .i64 k] m fr=some (.slice false (0::fr) xs,[(0::fr,0,[.tok 6])]):=by
 grind [grownQ]
def R1{n:Int}(h:0<=n)(o:n<18446744073709551616):IntKind.u64.wrap n=n:=by
 have:IntKind.u64.wrap n=n % 18446744073709551616:=Yv
 rw[this];omega
def aFv(d:D):D:= .tup [d,.int .i64 0]
def mQ(n:Nat)(F:List D->List D->Option (D×List D)):G_ where
 rd:=λds _=>match ds with
  | .ptr i 0::_=>Ai i 0 n
  |_=>[]
 ex:=λds m _=>match ds with
  | .ptr i 0::rest=>match Ag m i 0 n with
   |some cs=>(F cs rest).map λy=>(y.1,[(i,0,y.2)])
   |none=>none
  |_=>none
def aNS{n:Nat}{F:List D->List D->Option (D×List D)}(ds:List D)(m m':Gu)(fr:Id)(h:∀l∈(mQ n F).rd ds m,m l.1 l.2=m' l.1 l.2):(mQ n F).ex ds m fr=(mQ n F).ex ds m' fr:=by
 grind [mQ,Bo]
def Ub{n:Nat}{F:List D->List D->Option (D×List D)}{i:Id}{m:Gu}{v:List D}{fr:Id}:(mQ n F).ex (.ptr i 0::v) m fr=(Ag m i 0 n).bind λcs=>(F cs v).map λy=>(y.1,[(i,0,y.2)]):=by
 grind [mQ,Ag]
def aNT{n:Nat}{F:List D->List D->Option (D×List D)}{ds:List D}{m:Gu}{fr:Id}{r:D}{u:GA}(h:(mQ n F).ex ds m fr=some (r,u)):
  ∃i v cs c,ds= .ptr i 0::v∧Ag m i 0 n=some cs∧F cs v=some (r,c)∧u=[(i,0,c)]:=by
 simp only[mQ]at h;split at h
 ·rename_i i v;split at h
  ·rename_i cs na;rw[Ql]at h;obtain⟨y,z,h⟩:=h;simp only[Qs]at h;obtain⟨rfl,rfl⟩:=h;exact⟨i,v,cs,y.2,rfl,na,z,rfl⟩
  ·cases h
 ·cases h
section
variable{m m':Gu}{i j:Id}{n o k:Nat}{cs ys:List D}{d:D}{fr:Id}
def A7(h:Ag m i 0 n=some cs)(p:cs[k]?=some d):m i k=some d:=by
 grind [Bn]
def TG:∀{ds:List D} {m:Gu} {p:Nat},(∀k d,ds[k]?=some d->m i (p+k)=some d)->Ag m i p ds.length=some ds
 |[],m,p,_=>rfl
 |x::r,m,p,h=>by
  have f:=h 0 x rfl;rw[Q8]at f;have u:=TG (ds:=r) (m:=m) (p:=p+1) (λk d s=>by
   have:=h (k+1) d (by simpa using s);rw[show p+(k+1)=p+1+k by omega]at this;exact this)
  simp only[Ag,Qh,f,u,QO]
def yJ(h:Ag m i 0 n=some cs)(g:o+k<=n):Ag m i o k=some ((cs.drop o).take k):=by
 obtain⟨u,z⟩:=Bn h;have hl:((cs.drop o).take k).length=k:=YE
 have:=TG (i:=i) (m:=m) (p:=o) (ds:=(cs.drop o).take k) (λq d r=>by
  rw[Zw]at r;split at r
  ·grind
  ·cases r)
 rw[hl]at this;exact this
def fC(h:Ag m i 0 n=some cs)(g:o+ys.length<=n):Ag (m.put i o ys) i 0 n=some (cs.take o++ys++cs.drop (o+ys.length)):=by
 obtain⟨u,z⟩:=Bn h;have hl:(cs.take o++ys++cs.drop (o+ys.length)).length=n:=by simp only[Q6,List.length_take,ZA];omega
 have:=TG (i:=i) (m:=m.put i o ys) (p:=0) (ds:=cs.take o++ys++cs.drop (o+ys.length)) (λq d r=>by
  rw[Qm];simp only[Gu.put];have a:(cs.take o).length=o:=XE
  by_cases j:q<o
  ·have y:¬(True∧o<=q∧q<o+ys.length):=by omega
   first
    |rw[if_neg Xb]
    |skip
   rw[Zc,QU O,Zw,if_pos j]at r;exact A7 h r
  ·by_cases e:q<o+ys.length
   ·rw[if_pos Xb];rw[Zc,Q2 O,a,QU O]at r;exact r
   ·rw[if_neg Xb];rw[Zc,Q2 O,a,Q2 O,List.getElem?_drop]at r;rw[show o+ys.length+(q-o-ys.length)=q by omega]at r;exact A7 h r)
 rw[hl]at this;exact this
def ET(n:Nat)(i:Id)(m m':Gu):Prop:=∀(j:Id)(o:Nat)(x:D),(j≠i∨n<=o)->m j o=some x->m' j o=some x
def ET.refl:ET n i m m:=λ_ _ _ _ h=>h
def ET.own(h:ET n i m m')(b:o+ys.length<=n):ET n i m (m'.put i o ys):=λj p x t q=>by
 have u:=h j p x t q;simp only[Gu.put];split
 ·grind
 ·exact u
def ET.new(w:∀i o,fr<:+i->m i o=none)(l:List Nat)(h:ET n i m m'):ET n i m (m'.put (l++k::fr) o ys):=λj p x t q=>by
 have u:=h j p x t q;have ga:j≠l++k::fr:=λe=>by
  rw[e,w _ _ ⟨l++[k],U⟩]at q;cases q
 rw[aA ga];exact u
def bH(w:∀i o,fr<:+i->m i o=none)(h:ET n i m m'):ET n i m (m'.put (k::fr) o ys):=ET.new w [] h
end
theorem aV4 {P : Program} {S : Gq} {f : FuncId} {N : Nat} {dc : DC} {rs : List RV} (hS : Gq.ok P S) (hf : Fn P f N dc rs) {n : Nat} {F : List D → List D → Option (D × List D)} (hn : 0 < n) (hN : ∀ cs v y, F cs v = some y → v.length + 1 ≤ N)
  (h : ∀ (i : Id) (m : Gu) (fr : Id) (cs v : List D) (r : D) (da : List D), Ag m i 0 n = some cs → F cs v = some (r, da) → (∀ j o, fr <:+ j → m j o = none) → (∀ k l, (i = l ++ k :: fr) = False) → (∀ k, (i = k :: fr) = False) →
   dc.wp S fr (DM rs fun d m' => d = r ∧ Ag m' i 0 n = some da ∧ ET n i m m') ⟨Bv (.ptr i 0 :: v), m, 0⟩) : (mQ n F).ok P f := by
 refine IK hS hf aNS (fun ds m fr r u z w => ?_)
 obtain ⟨i, v, cs, da, rfl, na, hF, rfl⟩ := aNT z
 have va : ∃ x, m i 0 = some x := by
  obtain ⟨q, t⟩ := Bn na
  have := t 0 hn
  rw [Qc O] at this
  exact ⟨_, this⟩
 obtain ⟨x0, c⟩ := va
 have g : ∀ k l, (i = l ++ k :: fr) = False := fun k l => eq_false (fun e => by
  rw [e, w _ _ ⟨l ++ [k], U⟩] at c
  cases c)
 refine ⟨hN _ _ _ hF, ?_⟩
 have hw := h i m fr cs v r da na hF w g (fun k => g k [])
 refine LB hw (fun e p he => ?_)
 obtain ⟨b, d, fa, rfl, la, ho⟩ := he
 refine ⟨b, d, fa, rfl, fun j o x hx => ?_⟩
 obtain ⟨q, t⟩ := Bn la
 have pa : (m.put i 0 da) j o = some x := hx
 by_cases s : j = i
 ·subst s
  by_cases a : o < n
  ·grind [Gu.put]
  ·have sa : m j o = some x := by
    simp only [Gu.put] at pa
    rw [if_neg (by simp; omega)] at pa
    exact pa
   exact ho j o x (.inr O) sa
 ·rw [aA s] at pa
  exact ho j o x (.inl s) pa
section
variable{α:Type}{mk:α->List D}{ok:α->Prop}{res:α->D}
open Classical in
def FX(mk:α->List D)(ok:α->Prop)(res:α->D):List D->Option D:=λds=>if h:∃a,ok a∧mk a=ds then some (res (Classical.choose h))else none
def BO(inj:∀a b,mk a=mk b->a=b){a:α}(x:ok a):FX mk ok res (mk a)=some (res a):=by
 have h:∃b,ok b∧mk b=mk a:=⟨a,x,rfl⟩;unfold FX;rw[dif_pos h,inj _ _ (Classical.choose_spec h).2]
def CV{ds:List D}{r:D}(h:FX mk ok res ds=some r):∃a,ok a∧mk a=ds∧res a=r:=by
 unfold FX at h;split at h
 ·grind
 ·cases h
def CI{P:Program}{S:Gq}{f:FuncId}{N:Nat}{g:DC}{rs:List RV}(j:Gq.ok P S)(k:Fn P f N g rs)(p:∀a,(mk a).length<=N)
  (z:∀a,ok a->g.wp S [] (DM rs λd _=>d.unR=res a∧(res a).calmR=true) ⟨Bv (mk a),λ_ _=>none,0⟩):(Ac (FX mk ok res)).ok P f:=by
 refine AK j k (λds r h=>?_) (λds r h=>?_)
 ·obtain⟨a,_,rfl,_⟩:=CV h;exact p a
 ·obtain⟨a,x,rfl,rfl⟩:=CV h;exact z a x
end
def mkJ(p:List (List UInt8)×List UInt8):List D:=[.slice false [] (p.1.map .str),.str p.2]
def aF0(x y:List (List UInt8)×List UInt8)(e:mkJ x=mkJ y):x=y:=by
 simp only[mkJ,Qn,D.slice.injEq,D.str.injEq,true_and,and_true]at e;exact ZR ((List.map_inj_right (λa b h=>Xn)).1 e.1) e.2
def aJ9:∀l:List (List UInt8),flat (l.map D.str)=l.map D.str
 |[]=>rfl
 |x::r=>by
  have ih:=aJ9 r;simp only[Q0,flat,ih];rfl
def WK:List D->Option D:=FX mkJ (λp=>p.1≠[]∧p.1.length<=1000∧Cr p.1<=1000000∧p.2.length<=1000∧(Lib.join p.1 p.2).length<=10000000) (λp=> .str (Lib.join p.1 p.2))
def aAI {P:Program} {ρ:Go.Shelf.Ren} (L:Go.Proofs.Lays.n156 P ρ) (X:Go.Proofs.Builder.Extra P ρ) (va:∃fn,P.funcs[ρ.f 156]?=some fn∧fn.body.isSome=true∧(fn.name== "runtime.NumGoroutine")=false):(Ac WK).ok P (ρ.f 156):=by
 refine⟨va,λds m m' fr _=>rfl,?_⟩;intro B w0 w m g fr ds vs r u hi fa hl da y;simp only[Ac]at y;split at y
 ·rename_i ia;rw[Ql]at y;obtain⟨r',hr,y⟩:=y;simp only[Qs]at y;obtain⟨rfl,rfl⟩:=y;obtain⟨⟨l,s⟩,⟨q,t,h3,h4,h5⟩,p,rfl⟩:=CV hr;simp only at q t h3 h4 h5;have ca:∀(j:Nat) d v,(mkJ (l,s))[j]?=some d->vs[j]?=some v->Rep w g d v:=by
   intro j d v hd hv;rw[p,QN,Ql]at hd;obtain⟨d',qa,rfl⟩:=hd;exact(da j d' v qa hv).un
  have ba:ds.length=2:=by
   have:=congrArg ZQ p;simpa[mkJ]using this.symm
  match vs,hl.trans ba with
  |[v,v1],_=>
   have r0:=ca 0 _ v rfl rfl;have r1:=ca 1 _ v1 rfl rfl;rw[r1.str_inv];obtain⟨ad,n,c,sz,ws,rfl,hn,za,ja,ya,o,na,_⟩:=r0.slice_list;have la:n=l.length:=by simpa using hn
   subst la;have nb:sz=1:=by
    cases l with
    |nil=>exact absurd rfl q
    |cons x r=>exact(ja (.str x) U).symm
   subst nb;have ma:=aJ9 l;rw[ma]at o;have ha:∀(j:Nat) z,l[j]?=some z->w.cell? (ad.add j)=some (.string ⟨z.toArray⟩):=by
    intro j z hz;have hj:j<l.length:=(Qq.1 hz).1;have k:j<ws.length:=by rw[ya];omega
    have hd:(l.map D.str)[j]?=some (.str z):=by rw[QN,hz];rfl
    have:=o.2.2 j (.str z) ws[j] hd (Qc k);rw[na j ws[j] (Qc k),this.str_inv]
   obtain⟨b,off,h⟩:=ad;have ta:0<l.length:=List.length_pos_iff.2 q;have ga:=ha 0 _ (Qc ta);have e:h=none:=by simpa[Addr.add]using World.cell?_spot ga
   subst e;have a:b<w.heap.size:=by simpa[Addr.add]using World.block_lt_of_cell? _ _ ga
   have ea:(l.map λx=>(⟨x.toArray⟩:ByteArray)).map (·.data.toList)=l:=Yu
   have hj:(⟨s.toArray⟩:ByteArray).data.toList=s:=rfl;have:=Go.Proofs.Any.strings_Join L X b off c (l.map λx=>(⟨x.toArray⟩:ByteArray)) ⟨s.toArray⟩ w (λj x hx=>by
    rw[QN,Ql]at hx;obtain⟨z,hz,rfl⟩:=hx;have:=ha j z hz;rw[EE]at this;exact this) a Xb Xb (by rw[ea,hj];omega)
   rw[ea,hj,Qy]at this;refine this.mono ?_;rintro ev w' ⟨rfl,hb⟩;exact⟨_,g.over w w',rfl,hi.over hb,GR.over hi.gz hb,.str _,λi hf _=>hf⟩
 ·cases y
section
variable{α:Type}{mk:α->List D×List D}{ok:α->Prop}{res:α->D×List D}
end
section
variable{α:Type}{mk:α->List D×List D}{ok:α->Prop}{res:α->D×Id×(Id->List D)}
end
def aNY{R:St->Ex->St->Prop}(c:∀y w i f p,R y w i->R y f p->w=f∧i=p):∀{n1 y w i},Lp R n1 y w i->∀{n2 f p},Lp R n2 y f p->w=f∧i=p:=by
 intro n1 y w i u;induction u with
 |stop y e x h j=>
  intro n2 f p t;cases t with
  |stop _ _ _ o _=>exact c _ _ _ _ _ h o
  |more n _ g _ _ o _=>exact absurd (c _ _ _ _ _ h o).1 j
 |more n y g e x h hl ih=>
  intro n2 f p t;cases t with
  |stop _ _ _ o j=>exact absurd (c _ _ _ _ _ h o).1.symm j
  |more m _ r _ _ o z=>
   have:=(c _ _ _ _ _ h o).2;subst this;exact ih z
def aOW{S:Gq}{ns:Id}:∀{g:DC} {y:St} {w:Ex} {t:St} {f:Ex} {v:St},Ev S ns g y w t->Ev S ns g y f v->w=f∧t=v:=by
 intro g;induction g with
 |skip=>rintro y w t f v ⟨rfl,rfl⟩ ⟨rfl,rfl⟩;exact⟨rfl,rfl⟩
 |ret=>rintro y w t f v ⟨rfl,rfl⟩ ⟨rfl,rfl⟩;exact⟨rfl,rfl⟩
 |exit i=>rintro y w t f v ⟨rfl,rfl⟩ ⟨rfl,rfl⟩;exact⟨rfl,rfl⟩
 |row ops=>
  rintro y w ⟨a1,x,c1⟩ f ⟨s,q,m⟩ ⟨rfl,u,r⟩ ⟨rfl,z,j⟩;rw[u]at z;simp only[Qb,Qs]at z;simp only at r j;exact⟨rfl,by rw[z.1,z.2,r,j]⟩
 |drawn ops ps=>
  rintro y w ⟨a1,x,c1⟩ f ⟨s,q,m⟩ ⟨rfl,⟨f1,u,_⟩,r⟩ ⟨rfl,⟨f2,z,_⟩,j⟩;rw[u]at z;simp only[Qb,Qs]at z;simp only at r j;exact⟨rfl,by rw[z.1,z.2.1,r,j]⟩
 |seq a b d e=>
  rintro y w t f v ⟨x1,y1,u,n⟩ ⟨x2,y2,z,k⟩;obtain⟨rfl,rfl⟩:=d u z;rcases n with ⟨n1,n⟩|⟨n1,rfl,rfl⟩<;>rcases k with ⟨n2,k⟩|⟨n2,rfl,rfl⟩
  ·exact e n k
  ·exact absurd n1 n2
  ·exact absurd n2 n1
  ·exact YX
 |cond c a b d e=>
  rintro y w t f v u z;rcases u with ⟨o,u⟩|⟨o,u⟩<;>rcases z with ⟨p,z⟩|⟨p,z⟩
  ·exact d u z
  ·rw[o]at p;simp at p
  ·rw[o]at p;simp at p
  ·exact e u z
 |block i c ih=>
  rintro y w t f v ⟨x1,u,n⟩ ⟨x2,z,k⟩;obtain⟨rfl,rfl⟩:=ih u z;rcases n with ⟨n1,rfl⟩|⟨n1,rfl⟩<;>rcases k with ⟨n2,rfl⟩|⟨n2,rfl⟩
  ·exact YX
  ·exact absurd n1 n2
  ·exact absurd n2 n1
  ·exact YX
 |loop c ih=>
  rintro y w t f v ⟨n1,u⟩ ⟨n2,z⟩;exact aNY (R:=Ev S ns c) (λy w t f v h h'=>@ih y w t f v h h') u z
def PM{S:Gq}{ns:Id}{g:DC}{rs:List RV}{b j:D->Gu->Prop}{y:St}(u:g.wp S ns (DM rs b) y)(z:g.wp S ns (DM rs j) y):∃d m,b d m∧j d m:=by
 obtain⟨w,i,a,_,q,v,t⟩:=u;obtain⟨f,p,x,_,o,k,e⟩:=z;obtain⟨rfl,rfl⟩:=aOW a x;rw[v]at k;simp only[Qb]at k;subst k;exact⟨_,_,t,e⟩
def xM(S:Gq)(g:DC)(rs:List RV)(N:Nat)(ds:List D)(r:D):Prop:=ds.length<=N∧g.wp S [] (DM rs λd _=>d.unR=r∧r.calmR=true) ⟨Bv ds,λ_ _=>none,0⟩
open Classical in
def RF(S:Gq)(g:DC)(rs:List RV)(N:Nat):List D->Option D:=λds=>if h:∃r,xM S g rs N ds r then some (Classical.choose h)else none
def yA{S:Gq}{g:DC}{rs:List RV}{N:Nat}{ds:List D}{r:D}(h:RF S g rs N ds=some r):xM S g rs N ds r:=by
 unfold RF at h;split at h
 ·grind
 ·cases h
def Am{S:Gq}{g:DC}{rs:List RV}{N:Nat}{ds:List D}{r:D}(p:ds.length<=N)(h:g.wp S [] (DM rs λd _=>d.unR=r∧r.calmR=true) ⟨Bv ds,λ_ _=>none,0⟩):RF S g rs N ds=some r:=by
 have q:∃r,xM S g rs N ds r:=⟨r,p,h⟩;unfold RF;rw[dif_pos q];obtain⟨d,_,u,z⟩:=PM (Classical.choose_spec q).2 h;rw[←u.1,z.1]
def An{P:Program}{S:Gq}{f:FuncId}{N:Nat}{g:DC}{rs:List RV}(k:Fn P f N g rs)(j:Gq.ok P S):(Ac (RF S g rs N)).ok P f:=
 AK j k (λds r h=>(yA h).1) (λds r h=>(yA h).2)
theorem GQ{m:Gu}{i:Id}{ds:List D}{n:Nat}(h:ds.length=n):Ag (m.put i 0 ds) i 0 n=some ds:=by
 subst h;exact TG (λk d p=>by rw[aE (Qq.1 p).1,p])
def Bf{S:Gq}{ns:Id}{b:DC}{Q:Ex->St->Prop}{n:Nat}{I:Nat->St->Prop}(o:∀j,j<n->(∀y g,I (j+1) y->A5 S ns b Q y g)->∀y g,I j y->A5 S ns b Q y g)(r:∀y g,I n y->A5 S ns b Q y g):∀j,j<=n->∀y g,I j y->A5 S ns b Q y g:=by
 have z:∀f j,n=j+f->∀y g,I j y->A5 S ns b Q y g:=by
  intro f;induction f with
  |zero=>
   intro j q y g m;have:j=n:=O
   subst this;exact r y g m
  |succ f ih=>intro j q y g m;exact o j O (λy g h=>ih (j+1) O y g h) y g m
 exact λj q=>z (n-j) j O
def xL(S:Gq)(g:DC)(rs:List RV)(N n:Nat)(cs v:List D)(y:D×List D):Prop:=cs.length=n∧v.length+1<=N∧∀(i:Id)(m:Gu)(fr:Id),Ag m i 0 n=some cs->(∀j o,fr<:+j->m j o=none)->(∀k l,(i=l++k::fr)=False)->(∀k,(i=k::fr)=False)->
 g.wp S fr (DM rs λd m'=>d=y.1∧Ag m' i 0 n=some y.2∧ET n i m m') ⟨Bv (.ptr i 0::v),m,0⟩
def aFQ(cs:List D)(n:Nat)(hl:cs.length=n)(c:0<n):∃m:Gu,Ag m [0] 0 n=some cs∧(∀j o,[1]<:+j->m j o=none)∧(∀k l,(([0]:Id)=l++k::[1])=False)∧(∀k,(([0]:Id)=k::[1])=False):=by
 refine⟨Gu.put (λ_ _=>none) [0] 0 cs,GQ hl,λj o q=>?_,λk l=>eq_false (λe=>?_),λk=>eq_false (λe=>by simp at e)⟩
 ·rw[aA];rintro rfl;obtain⟨t,u⟩:=q;have:=congrArg ZK u;simp at this
 ·have:=congrArg ZK e;simp at this
open Classical in
def RM(S:Gq)(g:DC)(rs:List RV)(N n:Nat):List D->List D->Option (D×List D):=λcs v=>if h:∃y,xL S g rs N n cs v y then some (Classical.choose h)else none
def xX{S:Gq}{g:DC}{rs:List RV}{N n:Nat}{cs v:List D}{y:D×List D}(h:RM S g rs N n cs v=some y):xL S g rs N n cs v y:=by
 unfold RM at h;split at h
 ·grind
 ·cases h
def aRk{S:Gq}{g:DC}{rs:List RV}{N n:Nat}{cs v:List D}{y:D×List D}(c:0<n)(hl:cs.length=n)(p:v.length+1<=N) (h:∀(i:Id)(m:Gu)(fr:Id),Ag m i 0 n=some cs->(∀j o,fr<:+j->m j o=none)->(∀k l,(i=l++k::fr)=False)->(∀k,(i=k::fr)=False)->
  g.wp S fr (DM rs λd m'=>d=y.1∧Ag m' i 0 n=some y.2∧ET n i m m') ⟨Bv (.ptr i 0::v),m,0⟩):RM S g rs N n cs v=some y:=by
 have q:∃y,xL S g rs N n cs v y:=⟨y,hl,p,h⟩;unfold RM;rw[dif_pos q];obtain⟨m,x,e,t,s⟩:=aFQ cs n hl c;obtain⟨d,m',u,z⟩:=PM ((Classical.choose_spec q).2.2 [0] m [1] x e t s) (h [0] m [1] x e t s);have w:=u.1.symm.trans z.1;have f:=u.2.1.symm.trans z.2.1;simp only[Qb]at f;rw[show Classical.choose q=y from ZR w f]
def aRj{P:Program}{S:Gq}{f:FuncId}{N n:Nat}{g:DC}{rs:List RV}(k:Fn P f N g rs)(o:0<n)(j:Gq.ok P S):(mQ n (RM S g rs N n)).ok P f:=by
 refine aV4 j k o (λcs v y s=>(xX s).2.1) (λi m fr cs v r c na q w u z=>?_);exact(xX q).2.2 i m fr na w u z
end Go.Vd
namespace Go.Vd
open Go.Proofs Go.RowKit
def aSn{x:D}{l:List D}{n:Nat}:(x::l).take (n+1)=x::l.take n:=rfl
def aSo{l:List D}:l.take 0=[]:=rfl
def aSD{l:List D}:l.drop 0=l:=rfl
def aSC{x:D}{l:List D}{n:Nat}:(x::l).drop (n+1)=l.drop n:=rfl
def aVY{x:D}{f:D->Option (List D)}:(some x).bind f=f x:=rfl
def aSu{f:D->Option (List D)}:(none:Option D).bind f=none:=rfl
def aVX{x:List D}{f:List D->List D}:(some x).map f=some (f x):=rfl
def aSt{x:List D}{f:List D->D}:(some x).map f=some (f x):=rfl
def aSs{x:D}{f:D->D}:(some x).map f=some (f x):=rfl
def aSr{x:D}{f:D->List D}:(some x).map f=some (f x):=rfl
def aVZ{x:List D}:(some x).isSome=true:=rfl
def aSy{x:D}:(some x).isSome=true:=rfl
def aV1{a b:Nat}{l q:List Nat}:(a::l=b::q)=(a=b∧l=q):=U
def aSE{a:Nat}{l:List Nat}:(a::l=[])=False:=U
def aV2:(true=false)=False:=U
def aV3:(false=true)=False:=U
def aSx{m:Gu}{n:Nat}{i:Id}{o:Nat}:WC m (some n) (.ptr i o)=(Ag m i o n).map .agg:=rfl
def aSw{m:Gu}{i:Id}{o:Nat}:WC m none (.ptr i o)=m i o:=rfl
def aFB{s:Nat->D}{m:Gu}{k:Option Nat}{a b:Nat}:CH [.t b,.cell k a] s m=(WC m k (s a)).map λd=> .tup [s b,d]:=by
 simp only[CH,Hm,RV.of];cases WC m k (s a)<;>rfl
def yC{s:Nat->D}{m:Gu}{k:Option Nat}{a b c:Nat}:CH [.cell k a,.t b,.t c] s m=(WC m k (s a)).map λd=> .tup [d,s b,s c]:=by
 simp only[CH,Hm,RV.of];cases WC m k (s a)<;>rfl
def TD{s:Nat->D}{m:Gu}{k:Option Nat}{a b c e:Nat}:CH [.cell k a,.t b,.t c,.t e] s m=(WC m k (s a)).map λd=> .tup [d,s b,s c,s e]:=by
 simp only[CH,Hm,RV.of];cases WC m k (s a)<;>rfl
def HU{s:Nat->D}{m:Gu}{k:Option Nat}{a b:Nat}:CH [.cell k a,.t b] s m=(WC m k (s a)).map λd=> .tup [d,s b]:=by
 simp only[CH,Hm,RV.of];cases WC m k (s a)<;>rfl
def aSB{cs:List D}:B7 cs []=some cs:=rfl
def aV0{cs:List D}{o n:Nat}{d:D}{r:List (Nat×Nat×D)}:B7 cs ((o,n,d)::r)=if d.data=true∧d.cells.length=n∧o+n<=cs.length then B7 (E4 cs o d.cells) r else none:=rfl
def aVW{cs ds:List D}{o:Nat}:E4 cs o ds=cs.take o++ds++cs.drop (o+ds.length):=rfl
def aSv{nl:Bool}{t u:Id}{xs:List D}:L0 0 (.slice nl t xs) (.slice true u [])=some nl:=by cases nl<;>rfl
def aSI:(true !=false)=true:=rfl
def aSH:(false !=false)=false:=rfl
def aSG:(true !=true)=false:=rfl
def aSF:(false !=true)=true:=rfl
def aSz{m:Gu}{e:Nat}{f t:Id}{xs:List D}:GA.app m (A6 e f (.slice true t xs))=m.put f 0 [.tok (e+1)]:=rfl
def aSA{m:Gu}{e:Nat}{f t:Id}{xs:List D}:GA.app m (A6 e f (.slice false t xs))=(m.put t 0 [.tok 0]).put f 0 [.tok (e+1)]:=rfl
def aSq{x y:D}{l:List D}:(x::l).set 0 y=y::l:=rfl
def aSp{x y:D}{l:List D}{n:Nat}:(x::l).set (n+1) y=x::l.set n y:=rfl
set_option linter.defProp false
def Gp:=Qa @Ah <| Qa @Au <| Qa @Av <| Qa @Be <| Qa @HU <| Qa @aFB <| Qa @yC <| Qa @TD <| Qa @aSx <| Qa @aSw <| Qa @aSn <| Qa @aSo <| Qa @aSD <| Qa @aSC <| Qa @aVY <| Qa @aSu <| Qa @aVX <| Qa @aSt <| Qa @aSs <| Qa @aSr <| Qa @aVZ <| Qa @aSy <| Qa @aV1 <| Qa @aSE <| Qa @aV2 <| Qa @aV3 <| Qa @Qx <| Qa @Qw <| Qa @Qm <| Qa @true_and <| Qa @and_true <| Qa @false_and <| Qa @and_false <| Qa @and_self <| Qa @Qp <| Qa @QQ <| Qa @Qv <| Qa @Nat.add_eq_right <| Qa @Bool.true_or <| Qa @Bool.or_true <| Qa @ZL <| Qa @ZM <| Qa @ZH <| Qa @ZD <| Qa @not_true_eq_false <| Qa @not_false_eq_true <| Qa @aSB <| Qa @aV0 <| Qa @aVW <| Qa @aSq <| Qa @aSp <| Qa @aSv <| Qa @aSz <| Qa @aSA <| Qa aSI <| Qa aSH <| Qa aSG aSF
def gZ1:=Qa GJ Gp
abbrev Rw:=Int×Bool×Bool
def rwD(r:Rw):D:= .agg [.int .i64 r.1,.bool r.2.1,.bool r.2.2]
def A1(l:List Rw):List D:=l.map rwD
def AN(l:List Rw):(A1 l).length=l.length:=Qy ..
def EZ{l:List Rw}{j:Nat}(h:j<l.length):(A1 l)[j]?=some (.agg [.int .i64 l[j].1,.bool l[j].2.1,.bool l[j].2.2]):=by simp[A1,rwD,Qc h]
structure Sc where
 mx:Int
 cas:Bool
 la:Int
 nl:Bool
 rs:List Rw
def GB(s:Sc):List D:=[.int .i64 s.mx,.bool s.cas,.int .i64 s.la,.slice s.nl [] (A1 s.rs)]
def HP:List Rw->Int->Bool
 |[],_=>true
 |x::r,a=>decide (a<x.1)&&HP r x.1
def B_(s:Sc)(q:Int):Int:=if s.mx=0 then q else s.mx
def Pc(l:List Rw):Int:=match l.getLast? with
 |some x=>x.1
 |none=>0
def DA(s:Sc)(q:Int):Bool:=!decide (1<=q∧q<=6)||(!decide (0<=s.mx∧s.mx<=6)||(!decide (0<=s.la∧s.la<=30)||(decide (B_ s q<s.rs.length)||(!HP s.rs 0||!decide (Pc s.rs=s.la)))))
def Ts(s:Sc)(q:Int):Int:=if DA s q=true then 2 else 0
def aWK:=Ap []
def aP5:=RF aWK aKS [.t 2] 5
def aTf:Kq aP5 61:=An (Aj func61) Ad
def aHE(r:Rw):aP5 [.agg [.int .i64 r.1,.bool r.2.1,.bool r.2.2]]=some (.int .i64 r.1):=by
 refine Am (QH rfl) ?_;unfold aKS;simp only[↓C2,Gt,Gp,simprocAttr]
 all_goals exact YT
def aWG:=Ap []
def aHv:=RF aWG aKz [.cell (some 2) 0] 2
def aJw:Kq aHv 57:=An (Aj func57) Ad
def oB:aHv []=some (.agg [.int .i64 6,.bool false]):=by
 refine Am (QH rfl) ?_;unfold aKz;simp only[↓C2,Gt,Gp,simprocAttr]
 all_goals exact YT
def aWQ:=Ap []
def Ra:=RF aWQ aLe [.cell (some 2) 0] 2
def aJD:Kq Ra 273:=An (Aj func273) Ad
def oH:Ra []=some (.agg [.int .i64 6,.bool false]):=by
 refine Am (QH rfl) ?_;unfold aLe;simp only[↓C2,Gt,Gp,simprocAttr]
 all_goals exact YT
def aWL:=Ap []
def aHG:=RF aWL mZ [.t 4] 12
def aJz:Kq aHG 59:=An aJ3 Ad
def oE(s:Sc)(q:Int)(b:Bool):aHG [.agg (GB s),.agg [.int .i64 q,.bool b]]=some (.int .i64 (B_ s q)):=by
 refine Am (QH rfl) ?_;unfold mZ;unfold B_ GB;by_cases h:s.mx=0
 ·simp only[↓C2,Gt,Gp,simprocAttr,h]
  all_goals exact YT
 ·simp only[↓C2,Gt,Gp,simprocAttr,h]
  all_goals exact YT
def aPv:=Ap [(61,Ac aP5)]
def aP6:=RF aPv mY [.t 4] 23
def aTg:Kq aP6 60:=An aJ2 (Aa aTf Ad)
def aHF{nl:Bool}{l:List Rw}(hl:l.length<=1000):aP6 [.slice nl [] (A1 l),.fn 61 []]=some (.bool (HP l 0)):=by
 refine Am (QH rfl) ?_;unfold mY;simp only[↓C2,Gy,simprocAttr,AN];refine Bf (n:=l.length) (I:=λj y=>y.s 8= .slice nl [] (A1 l)∧y.s 9= .int .i64 l.length∧y.s 10= .int .i64 (j:Int)∧y.s 1= .fn 61 []∧∃a,y.s 5= .int .i64 a∧HP (l.drop j) a=HP l 0) (λj t ih y g o=>?_) (λy g o=>?_) 0 (Qx _) _ _ ⟨rfl,rfl,rfl,rfl,0,rfl,rfl⟩
 ·obtain⟨ka,fa,c⟩:=y;obtain⟨h8,f,z,u,a,m,p⟩:=o;simp only at h8 f z u m;refine Af Oy.eq_1 ?_;have k:((j:Int)<l.length):=by omega
  have w:=nJ (j:=j);have v:=wJ (j:=j) O;have d:=EZ t;have r:l.drop j=l[j]::l.drop (j+1):=Q4 t;have b:=aHE l[j];rw[r]at p;generalize l[j]=x at d p b r;by_cases q:x.1<=a
  ·have e:HP l 0=false:=by rw[←p];simp[HP];omega
   simp only[↓C2,Gt,Gp,simprocAttr,h8,f,z,u,m,k,w,Qj,d,Ae aPv 61,b,q];rw[e]
   all_goals exact YT
  ·have e:HP (l.drop (j+1)) x.1=HP l 0:=by rw[←p];simp only[HP];rw[decide_eq_true O];rfl
   simp only[↓C2,Gt,Gp,simprocAttr,h8,f,z,u,m,k,w,Qj,d,Ae aPv 61,b,q,v];exact ih _ _ ⟨h8,f,rfl,u,_,rfl,e⟩
 ·obtain⟨h8,f,z,u,a,m,p⟩:=o;refine Af Oy.eq_1 ?_;have e:HP l 0=true:=by rw[←p];simp[HP]
  simp only[↓C2,Gt,Gp,simprocAttr,f,z,Zn];rw[e]
  all_goals exact YT
def Fs:Gq:=Ap [(58,Ac dU),(59,Ac aHG),(60,Ac aP6)]
def IZ:List D->Option D:=RF Fs nD [.t 4] 52
def Pv:Kq IZ 25:=An aJ6 (Aa zA (Aa aJz (Aa aTg Ad)))
def Gl(s:Sc)(q:Int)(b:Bool)(hl:s.rs.length<=1000):IZ [.agg (GB s),.agg [.int .i64 q,.bool b]]=some (.int .i64 (Ts s q)):=by
 refine Am (QH rfl) ?_;unfold nD;have d:=oE s q b;have f:=aHF (nl:=s.nl) (l:=s.rs) hl;have c:∀x a b:Int,dU [.int .i64 x,.int .i64 a,.int .i64 b]=some (.bool (decide (a<=x∧x<=b))):=λ_ _ _=>rfl
 have o:IntKind.i64.wrap ((s.rs.length:Int)-1)=(s.rs.length:Int)-1:=GS O O;have g:0<s.rs.length->∃x:Rw,Pc s.rs=x.1∧(A1 s.rs)[((s.rs.length:Int)-1).toNat]?=some (.agg [.int .i64 x.1,.bool x.2.1,.bool x.2.2]):=λh=>by
  have p:((s.rs.length:Int)-1).toNat=s.rs.length-1:=O
  refine⟨s.rs[s.rs.length-1],?_,by rw[p];exact EZ O⟩;unfold Pc;rw[List.getLast?_eq_getElem?,Qc O]
 have z:¬0<s.rs.length->Pc s.rs=0:=λh=>by
  have:s.rs=[]:=Zo.1 O;rw[this];rfl
 unfold Ts DA;unfold GB at d ⊢;generalize B_ s q=m at d;generalize HP s.rs 0=v at f;generalize Pc s.rs=nw at g z;by_cases c1:1<=q∧q<=6
 case neg=>
  simp only[↓C2,Gt,Gp,simprocAttr,Ae Fs 58,c,c1]
  all_goals exact YT
 by_cases u:0<=s.mx∧s.mx<=6
 case neg=>
  simp only[↓C2,Gt,Gp,simprocAttr,Ae Fs 58,c,c1,u]
  all_goals exact YT
 by_cases t:0<=s.la∧s.la<=30
 case neg=>
  simp only[↓C2,Gt,Gp,simprocAttr,Ae Fs 58,c,c1,u,t]
  all_goals exact YT
 by_cases n:m<s.rs.length
 case pos=>
  simp only[↓C2,Gt,Gp,simprocAttr,Ae Fs 58,c,Ae Fs 59,d,c1,u,t,n,AN];refine AS ?_;simp only[↓C2,Gt,Gp,simprocAttr,n]
  all_goals exact YT
 cases v with
 |false=>
  simp only[↓C2,Gt,Gp,simprocAttr,Ae Fs 58,c,Ae Fs 59,d,Ae Fs 60,f,c1,u,t,n,AN];refine AS ?_;simp only[↓C2,Gt,Gp,simprocAttr,n]
  all_goals exact YT
 |true=>
  by_cases r:0<s.rs.length
  ·obtain⟨x,w,y⟩:=g r;have i:(0:Int)<(s.rs.length:Int):=by omega
   have j:(0:Int)<=(s.rs.length:Int)-1:=O
   subst w;by_cases k:x.1=s.la
   ·simp only[↓C2,Gt,Gp,simprocAttr,Ae Fs 58,c,Ae Fs 59,d,Ae Fs 60,f,c1,u,t,n,k,AN];refine AS ?_;simp only[↓C2,Gt,Gp,simprocAttr,c1,u,t,n,i,j,o,y,k,AN]
    all_goals exact YT
   ·simp only[↓C2,Gt,Gp,simprocAttr,Ae Fs 58,c,Ae Fs 59,d,Ae Fs 60,f,c1,u,t,n,k,AN];refine AS ?_;simp only[↓C2,Gt,Gp,simprocAttr,c1,u,t,n,i,j,o,y,k,AN]
    all_goals exact YT
  ·have w:=z r;have i:¬(0:Int)<(s.rs.length:Int):=by omega
   subst w;by_cases k:(0:Int)=s.la
   ·have e:((0:Int)=s.la)=True:=eq_true k;simp only[↓C2,Gt,Gp,simprocAttr,Ae Fs 58,c,Ae Fs 59,d,Ae Fs 60,f,c1,u,t,n,e,AN];refine AS ?_;simp only[↓C2,Gt,Gp,simprocAttr,c1,u,t,n,i,e,AN]
    all_goals exact YT
   ·have e:((0:Int)=s.la)=False:=eq_false k;simp only[↓C2,Gt,Gp,simprocAttr,Ae Fs 58,c,Ae Fs 59,d,Ae Fs 60,f,c1,u,t,n,e,AN];refine AS ?_;simp only[↓C2,Gt,Gp,simprocAttr,c1,u,t,n,i,e,AN]
    all_goals exact YT
def aUe:=y0 f80 [] []
def aMe:=y0 f133 [] []
def aMd:=y0 f135 [] []
def aT2:=y0 f40 [] []
def OF:=y1 f91 3 [] []
def aLF:=y0 f91 [] [(3,OF)]
def aLE:=y0 f92 [] []
def aMb:=y0 Tryz.f195 [(2,[(5,1),(5,8),(6,1),(6,8)])] []
def aT1:=y0 f134 [] []
def aLD:=y0 f198 [] []
def aGO:=y1 f253 3 [] []
def aGN:=y1 f253 11 [] []
def aUp:=y0 f253 [] [(3,aGO),(11,aGN)]
def aUd:=y0 f196 [] []
def aUl:=y0 f81 [] []
def aUk:=y0 f13 [] []
def OH:=y1 f19 3 [] []
def aL4:=y0 f19 [] [(3,OH)]
def eL{a b:Bs}:AM .lss (.str a) (.str b)=some (.bool (Op.bytesLess a b)):=Xm
def wG{a b:Bs}:AM .gtr (.str a) (.str b)=some (.bool (!(Op.bytesLess a b||a==b))):=Xm
def CE(a b:Bs):Int:=if Op.bytesLess a b=true then-1 else if a=b then 0 else 1
def aIG:List D->Option D
 |[.str s]=>some (.bool false)
 |_=>none
def aRU:Kq aIG 113:=by
 refine AK (S:=λ_=>none) A2 (Aj func113:Fn Qf 113 6 aLs [.t 2]) (λds r h=>?_) (λds r h=>?_)
 ·unfold aIG at h;split at h
  ·simp
  ·cases h
 ·unfold aIG at h;split at h
  ·rename_i s;simp only[Qb]at h;subst h;unfold aLs;simp only[↓C2,Gt,reduceIte,Qd,Qe,and_self]
  ·cases h
def N7:List D->Option D
 |[.str a,.str b]=>some (.int .i64 (CE a b))
 |_=>none
def lS:Kq N7 62:=by
 obtain⟨S,j,hl⟩:=Bd (Aa aRU Ad);have c:=hl 113 _ rfl;clear hl;refine AK (S:=S) j (Aj func62:Fn Qf 62 20 aMf [.t 4]) (λds r h=>?_) (λds r h=>?_)
 ·unfold N7 at h;split at h
  ·simp
  ·cases h
 ·unfold N7 at h;split at h
  ·rename_i a b;simp only[Qb]at h;subst h;unfold aMf;have d:∀s,aIG [.str s]=some (.bool false):=λ_=>rfl
   unfold CE;cases hl:Op.bytesLess a b with
   |true=>simp only[↓C2,Gt,reduceIte,Qd,Qe,and_self,Ab c,d,eL,hl]
   |false=>
    by_cases w:a=b
    ·subst w;have g:(a==a)=true:=by simp
     simp only[↓C2,Gt,reduceIte,Qd,Qe,and_self,Ab c,d,eL,wG,hl,g,ZL]
    ·have g:(a==b)=false:=by simpa using w
     simp only[↓C2,Gt,reduceIte,Qd,Qe,and_self,Ab c,d,eL,wG,hl,g,w,ZM]
  ·cases h
def vP:List D->Option D
 |[.agg [.str p,.int .i64 q,.bool b],.agg [.str p2,.int .i64 q2,.bool b2]]=>some (.int .i64 (CE p p2))
 |_=>none
def aSg:Kq vP 192:=by
 obtain⟨S,j,hl⟩:=Bd (Aa lS Ad);have v:=hl 62 _ rfl;clear hl;refine AK (S:=S) j (Aj func192:Fn Qf 192 10 aMg [.t 4]) (λds r h=>?_) (λds r h=>?_)
 ·unfold vP at h;split at h
  ·simp
  ·cases h
 ·unfold vP at h;split at h
  ·rename_i p q b c k u;simp only[Qb]at h;subst h;unfold aMg;have z:∀a b,N7 [.str a,.str b]=some (.int .i64 (CE a b)):=λ_ _=>rfl
   simp only[↓C2,Gt,reduceIte,Qd,Qe,Ah,Qx,QL,Qw,Qh,Qk,Qm,Qg,and_self,Qn,Qp,QQ,Ab v,z]
  ·cases h
def vM:List D->Option D
 |[.agg [.str n,.str p,.slice nl t xs],.str s]=>some (.int .i64 (CE n s))
 |_=>none
def aR1:Kq vM 92:=by
 obtain⟨S,j,hl⟩:=Bd (Aa lS Ad);have v:=hl 62 _ rfl;clear hl;refine AK (S:=S) j (Aj func92:Fn Qf 92 9 aLE [.t 4]) (λds r h=>?_) (λds r h=>?_)
 ·unfold vM at h;split at h
  ·simp
  ·cases h
 ·unfold vM at h;split at h
  ·rename_i n p nl t xs s;simp only[Qb]at h;subst h;unfold aLE;have z:∀a b,N7 [.str a,.str b]=some (.int .i64 (CE a b)):=λ_ _=>rfl
   simp only[↓C2,Gt,reduceIte,Qd,Qe,Ah,Qx,QL,Qw,Qh,Qk,Qm,Qg,and_self,Ab v,z]
  ·cases h
abbrev Tk:=Bs×Bs×Bool×List Rl
def O0(k:Tk):D:= .agg [.str k.1,.str k.2.1,.slice k.2.2.1 [] (Ar k.2.2.2)]
def AG(l:List Tk):List D:=l.map O0
def tkT:D->Tk
 | .agg [.str n,.str p,.slice nl _ xs]=>(n,p,nl,Ba xs)
 |_=>([],[],true,[])
def C8(xs:List D):List Tk:=xs.map tkT
def Bx(l:List Tk):C8 (AG l)=l:=by
 simp only[C8,AG,QJ]
 conv=>rhs;rw[←ZB l]
 exact QD λr _=>by simp only[Function.comp,O0,tkT,AY,id]
theorem BS(l:List Tk):(AG l).length=l.length:=Qy ..
def Bc(l:List Tk)(j:Nat):Tk:=l.getD j ([],[],true,[])
def ID{l:List Tk}{j:Nat}(h:j<l.length):(AG l)[j]?=some (O0 (Bc l j)):=by
 grind [AG,Bc]
def bsR(l:List Tk)(s:Bs):Nat->Nat->Nat->Nat
 |0,lo,_=>lo
 |f+1,lo,hi=>if lo<hi then(if CE (Bc l ((lo+hi) / 2)).1 s<0 then bsR l s f ((lo+hi) / 2+1) hi else bsR l s f lo ((lo+hi) / 2))else lo
def IQ(l:List Tk)(s:Bs):Nat:=bsR l s l.length 0 l.length
def A0(l:List Tk)(s:Bs):Bool:=decide (IQ l s<l.length)&&decide (CE (Bc l (IQ l s)).1 s=0)
def aPg{lo hi:Nat}(h:lo+hi<1000000000):IntKind.i64.wrap ((IntKind.u64.wrap (IntKind.i64.wrap ((lo:Int)+(hi:Int)))).fdiv (2 ^ min (1:Int).toNat IntKind.u64.bits))=(((lo+hi) / 2:Nat):Int):=by
 have u:IntKind.i64.wrap ((lo:Int)+(hi:Int))=((lo+hi:Nat):Int):=Xh
 have z:IntKind.u64.wrap ((lo+hi:Nat):Int)=((lo+hi:Nat):Int):=by
  simp only[IntKind.wrap,IntKind.signed,IntKind.bits,Za,QS,if_false];omega
 have i:(((lo+hi:Nat):Int)).fdiv (2 ^ min (1:Int).toNat IntKind.u64.bits)=(((lo+hi) / 2:Nat):Int):=by
  rw[show(2:Int) ^ min (1:Int).toNat IntKind.u64.bits=2 from rfl,Int.fdiv_eq_ediv_of_nonneg _ O];omega
 rw[u,z,i,GS O O]
def aGd{S:Gq}{ns:Id}{l:List Tk}{nl:Bool}{t:Id}{s:Bs}{Q:Ex->St->Prop}{e:Nat}(b:S 92=some (Ac vM))(o:l.length<=1000000)
  (x:∀y,y.s 0= .slice nl t (AG l)->y.s 1= .str s->y.s 2= .fn 92 []->y.s 8= .int .i64 (l.length:Int)->y.s 9= .int .i64 (e:Int)->Q (.exit 0) y):
  ∀(f lo hi:Nat) y g,hi<=lo+f->hi<=l.length->bsR l s f lo hi=e->y.s 0= .slice nl t (AG l)->y.s 1= .str s->y.s 2= .fn 92 []->y.s 8= .int .i64 (l.length:Int)->y.s 9= .int .i64 (lo:Int)->y.s 10= .int .i64 (hi:Int)->A5 S ns OF Q y g:=by
 intro f;induction f with
 |zero=>
  intro lo hi y g hf hh w h0 q z h8 h9 la;refine Af OF.eq_1 ?_;have:¬((lo:Int)<hi):=O
  simp only[↓C2,Gy,GI,reduceIte,Qd,Qe,h9,la,this];exact x _ h0 q z h8 (by rw[←w];exact h9)
 |succ f ih=>
  intro lo hi y g hf hh w h0 q z h8 h9 la;refine Af OF.eq_1 ?_;unfold bsR at w;by_cases r:lo<hi
  ·rw[if_pos r]at w;have d:((lo:Int)<hi):=by omega
   have h:=aPg (lo:=lo) (hi:=hi) O;have va:(lo+hi) / 2<hi:=O
   have u:lo<=(lo+hi) / 2:=O
   generalize (lo+hi) / 2=mid at w h va u;have na:(0:Int)<=(mid:Int):=O
   have i:(0:Int)<=1:=O
   have hw:IntKind.i64.wrap ((mid:Int)+1)=((mid+1:Nat):Int):=GS O O;have m:=ID (l:=l) (j:=mid) O;generalize Bc l mid=k at m w;obtain⟨n,p,v,rs⟩:=k;replace m:(AG l)[mid]?=some (.agg [.str n,.str p,.slice v [] (Ar rs)]):=m;have a:vM [.agg [.str n,.str p,.slice v [] (Ar rs)],.str s]=some (.int .i64 (CE n s)):=rfl;simp only at w;generalize CE n s=c at w a;obtain⟨ka,fa,da⟩:=y;simp only at h0 q z h8 h9 la;by_cases hc:c<0
   ·rw[if_pos hc]at w;simp only[↓C2,Gt,reduceIte,Qd,Qe,h0,q,z,h9,la,d,h,na,i,hw,m,hc,Qj,Ab b,a,QY,Qh,Qk,Qm,Qu,Qz];exact ih (mid+1) hi _ _ O hh w h0 q z h8 rfl la
   ·rw[if_neg hc]at w;simp only[↓C2,Gt,reduceIte,Qd,Qe,h0,q,z,h9,la,d,h,na,i,m,hc,Qj,Ab b,a,QY,Qh,Qk,Qm,Qu,Qz];exact ih lo mid _ _ O O w h0 q z h8 h9 rfl
  ·rw[if_neg r]at w;have d:¬((lo:Int)<hi):=by omega
   simp only[↓C2,Gy,GI,reduceIte,Qd,Qe,h9,la,d];exact x _ h0 q z h8 (by rw[←w];exact h9)
def UL(l:List Tk)(s:Bs):∀(f lo hi:Nat),lo<=hi->bsR l s f lo hi<=hi
 |0,lo,hi,h=>by simpa[bsR]using h
 |f+1,lo,hi,h=>by
  unfold bsR;split
  ·split
   ·exact UL l s f _ _ O
   ·exact QR (UL l s f _ _ O) O
  ·exact h
open Classical in
def aIN:List D->Option D
 |[.slice _ _ xs,.str s,.fn 92 []]=>if xs=AG (C8 xs)∧xs.length<=1000000 then some (.tup [.int .i64 (IQ (C8 xs) s:Int),.bool (A0 (C8 xs) s)])else none
 |_=>none
open Classical in
def aIM{nl:Bool}{t:Id}{l:List Tk}{s:Bs}(hl:l.length<=1000000):aIN [.slice nl t (AG l),.str s,.fn 92 []]=some (.tup [.int .i64 (IQ l s:Int),.bool (A0 l s)]):=by
 have h:AG l=AG (C8 (AG l))∧(AG l).length<=1000000:=by rw[Bx,BS];exact⟨rfl,hl⟩
 show(if _ then _ else _)=_;rw[if_pos h,Bx]
def aR2:Kq aIN 91:=by
 obtain⟨S,o,hl⟩:=Bd (Aa aR1 Ad);have b:=hl 92 _ rfl;clear hl;refine AK (S:=S) o (Aj func91:Fn Qf 91 49 aLF [.t 6,.t 7]) (λds r h=>?_) (λds r h=>?_)
 ·unfold aIN at h;split at h
  ·simp
  ·cases h
 ·unfold aIN at h;split at h
  ·rename_i nl t xs s;split at h
   ·rename_i hc;obtain⟨q,hl⟩:=hc;simp only[Qb]at h;subst h;generalize C8 xs=l at q;subst q;rw[BS]at hl;have m:IQ l s<=l.length:=UL l s _ _ _ O;unfold aLF;simp only[↓C2,Gy,reduceIte,Qd,Qe,BS];refine aGd (l:=l) (nl:=nl) (t:=t) (s:=s) (e:=IQ l s) b hl (λy f u z h8 x=>?_) l.length 0 l.length _ _ O O rfl rfl rfl rfl rfl rfl rfl;unfold A0;generalize IQ l s=i at x m;by_cases hi:i<l.length
    ·have w:((i:Int)<l.length):=by omega
     have va:(0:Int)<=(i:Int):=O
     have d:=ID (l:=l) (j:=i) hi;generalize Bc l i=k at d;obtain⟨n,p,v,rs⟩:=k;replace d:(AG l)[i]?=some (.agg [.str n,.str p,.slice v [] (Ar rs)]):=d;have a:vM [.agg [.str n,.str p,.slice v [] (Ar rs)],.str s]=some (.int .i64 (CE n s)):=rfl;simp only[↓C2,Gt,reduceIte,Qd,Qe,f,u,z,h8,x,w,va,d,Qj,Ab b,a,QY,Qh,Qk,Qm,Qu,Qz];simp[hi]
    ·have w:¬((i:Int)<l.length):=by omega
     simp only[↓C2,Gt,reduceIte,Qd,Qe,h8,x,w];simp[hi]
   ·cases h
  ·cases h
def kT(l:List Tk):(AG l).map D.un=AG l:=by rw[AG,QJ];exact QD λ_ _=>rfl
def pV(l:List Tk):aF (AG l) 3=3:=XH
def EY(xs:List D):Prop:=xs=AG (C8 xs)∧xs.length<=1000000
def EA{l:List Tk}(hl:l.length<=1000000):EY (AG l):=⟨by rw[Bx],by rw[BS];exact hl⟩
def Ep{xs:List D}(h:EY xs):∃l:List Tk,xs=AG l∧l.length<=1000000∧C8 xs=l:=by
 refine⟨C8 xs,h.1,?_,rfl⟩;have:=h.2;rw[h.1,BS]at this;exact this
open Classical in
def F93:List D->Option D
 |[.agg [.slice _ _ xs],.str s]=>if EY xs then some (.tup [.int .i64 (IQ (C8 xs) s:Int),.bool (A0 (C8 xs) s)])else none
 |_=>none
open Classical in
def Ny{nl:Bool}{t:Id}{l:List Tk}{s:Bs}(hl:l.length<=1000000):F93 [.agg [.slice nl t (AG l)],.str s]=some (.tup [.int .i64 (IQ l s:Int),.bool (A0 l s)]):=by
 show(if _ then _ else _)=_;rw[if_pos (EA hl),Bx]
def yX:Kq F93 40:=by
 obtain⟨S,j,hl⟩:=Bd (Aa aR2 Ad);have b:=hl 91 _ rfl;clear hl;refine AK (S:=S) j (Aj func40:Fn Qf 40 12 aT2 [.t 4,.t 5]) (λds r h=>?_) (λds r h=>?_)
 ·unfold F93 at h;split at h
  ·simp
  ·cases h
 ·unfold F93 at h;split at h
  ·rename_i nl t xs s;split at h
   ·rename_i y;obtain⟨l,rfl,hl,e⟩:=Ep y;simp only[Qb]at h;subst h;rw[e];have a:=aIM (nl:=nl) (t:=[]) (s:=s) hl;unfold aT2;simp only[↓C2,GJ,simprocAttr,Ah,Ab b,a]
   ·cases h
  ·cases h
open Classical in
def F36:List D->Option D
 |[.agg [.slice _ _ xs],.str s,.str p]=>if EY xs∧∀k∈C8 xs,k.2.2.2.length<=1000000 then some (.int .u8 (if A0 (C8 xs) s=true then C0 (Bc (C8 xs) (IQ (C8 xs) s)).2.2.2 p else 0))else none
 |_=>none
def aVR:Kq F36 13:=by
 obtain⟨S,o,hl⟩:=Bd (Aa yX (Aa aNK Ad));have u:=hl 40 _ rfl;have ma:=hl 41 _ rfl;clear hl;refine AK (S:=S) o (Aj func13:Fn Qf 13 25 aUk [.t 6]) (λds r h=>?_) (λds r h=>?_)
 ·unfold F36 at h;split at h
  ·simp
  ·cases h
 ·unfold F36 at h;split at h
  ·rename_i nl t xs s p;split at h
   ·rename_i y;obtain⟨y,g⟩:=y;obtain⟨l,rfl,hl,e⟩:=Ep y;rw[e]at g h;simp only[Qb]at h;subst h;have z:=Ny (nl:=nl) (t:=[]) (s:=s) hl;have m:=kT l;unfold aUk;cases hf:A0 l s with
    |false=>simp only[↓C2,GJ,simprocAttr,Ah,Au,Av,Qi,Ab u,z,hf]
    |true=>
     have hi:IQ l s<l.length:=by
      grind [A0]
     rw[hf]at z;generalize IQ l s=i at z hi;have f:(0:Int)<=(i:Int):=O
     have d:=ID (l:=l) (j:=i) hi;have w:Bc l i∈l:=by simp[Bc,Qc hi]
     have x:=g _ w;generalize Bc l i=k at d x;obtain⟨n,q,v,rs⟩:=k;replace d:(AG l)[i]?=some (.agg [.str n,.str q,.slice v [] (Ar rs)]):=d;have a:=kF (nl:=v) (t:=[]) (s:=p) x;simp only[↓C2,GJ,simprocAttr,Ah,Au,Av,Qi,QB,QE,QP,Ab u,z,Ab ma,a,f,d,Qj]
   ·cases h
  ·cases h
def LK(n p:Bs)(l:List Rl):Int:=if BI n=false then 2 else if Cp l≠0 then Cp l else if p=[]∧n=[114,111,111,116]then 0 else if BI p=true∧p≠n then 0 else 2
open Classical in
def vO:List D->Option D
 |[.agg [.str n,.str p,.slice _ _ xs]]=>if(xs=Ar (Ba xs)∧xs.length<=1000000∧Ca (Ba xs))∧n.length<=1000000∧p.length<=1000000 then some (.int .i64 (LK n p (Ba xs)))else none
 |_=>none
open Classical in
def Vb{n p:Bs}{nl:Bool}{t:Id}{l:List Rl}(hl:l.length<=1000000)(y:Ca l)(u:n.length<=1000000)(z:p.length<=1000000):vO [.agg [.str n,.str p,.slice nl t (Ar l)]]=some (.int .i64 (LK n p l)):=by
 have h:(Ar l=Ar (Ba (Ar l))∧(Ar l).length<=1000000∧Ca (Ba (Ar l)))∧n.length<=1000000∧p.length<=1000000:=by rw[AY,AW];exact⟨⟨rfl,hl,y⟩,u,z⟩
 show(if _ then _ else _)=_;rw[if_pos h,AY]
def aJr:Kq vO 135:=by
 obtain⟨S,s,hl⟩:=Bd (Aa aRT (Aa V7 Ad));have b:=hl 199 _ rfl;have u:=hl 168 _ rfl;clear hl;refine AK (S:=S) s (Aj func135:Fn Qf 135 34 aMd [.t 2]) (λds r h=>?_) (λds r h=>?_)
 ·unfold vO at h;split at h
  ·simp
  ·cases h
 ·unfold vO at h;split at h
  ·rename_i n p nl t xs;split at h
   ·rename_i y;obtain⟨⟨q,hl,d⟩,o,j⟩:=y;simp only[Qb]at h;subst h;generalize Ba xs=l at q d;subst q;rw[AW]at hl;have a:aEy [.str n]=some (.bool (BI n)):=if_pos o;have c:aEy [.str p]=some (.bool (BI p)):=if_pos j;have f:=U2 (nl:=nl) (t:=[]) hl d;have m:=TC l;have na:=MT l;unfold aMd LK;generalize Cp l=e at *;generalize BI p=k at *;generalize BI n=v at *;cases v with
    |false=>simp only[↓C2,Gt,simprocAttr,Ah,Qx,Qw,Qh,Qk,Qm,Qg,and_self,Ab b,a]
    |true=>
     simp only[↓C2,GJ,simprocAttr,Ah,Ab b,a,Ab u,f]
     repeat' (first|(refine aG (λh=>?_) (λh=>?_)<;>try (exfalso;omega))|(simp only[↓C2,GJ,simprocAttr,h,Ah,false_and,Ab b,c]))
     all_goals (try simp_all)
   ·cases h
  ·cases h
def A4{s:Nat->D}{m:Gu}{k:Option Nat}{a b:Nat}:CH [.cell k a,.t b] s m=(WC m k (s a)).map λd=> .tup [d,s b]:=by
 simp only[CH,Hm,RV.of];cases WC m k (s a)<;>rfl
def Lz:(true !=false)=true:=rfl
def aPh:(false !=false)=false:=rfl
def NE(nl:Bool)(xs:List D):Prop:=xs=Ar (Ba xs)∧xs.length<=1000000∧(nl=true->xs=[])
def LP{nl:Bool}{l:List Rl}(hl:l.length<=1000000)(c:nl=true->l=[]):NE nl (Ar l):=⟨by rw[AY],by rw[AW];exact hl,λh=>by rw[c h];rfl⟩
def IH{nl:Bool}{xs:List D}(h:NE nl xs):∃l:List Rl,xs=Ar l∧l.length<=1000000∧(nl=true->l=[])∧Ba xs=l:=by
 refine⟨Ba xs,h.1,?_,λc=>?_,rfl⟩
 ·have:=h.2.1;rw[h.1,AW]at this;exact this
 ·rw[h.2.2 c];rfl
open Classical in
def aIL:List D->Option D
 |[.slice nl _ xs]=>if NE nl xs then some (.slice nl [] xs)else none
 |_=>none
open Classical in
def aIK{nl:Bool}{t:Id}{l:List Rl}(hl:l.length<=1000000)(c:nl=true->l=[]):aIL [.slice nl t (Ar l)]=some (.slice nl [] (Ar l)):=by
 show(if _ then _ else _)=_;rw[if_pos (LP hl c)]
def aR0:Kq aIL 198:=by
 refine AK (S:=λ_=>none) A2 (Aj func198:Fn Qf 198 8 aLD [.t 2]) (λds r h=>?_) (λds r h=>?_)
 ·unfold aIL at h;split at h
  ·simp
  ·cases h
 ·unfold aIL at h;split at h
  ·rename_i nl t xs;split at h
   ·rename_i y;obtain⟨l,rfl,hl,c,e⟩:=IH y;simp only[Qb]at h;subst h;have n1:(Ar l).length*25<=140737488355328:=by rw[AW];omega
    unfold aLD;cases nl with
    |true=>
     have:=c rfl;subst this;simp only[↓C2,Gt,simprocAttr,Lz,L0];rfl
    |false=>simp only[↓C2,Gt,simprocAttr,Ah,Qx,Qw,Qh,Qk,Qm,Qg,and_self,false_and,aPh,n1,hU,WR,Sj,false_or,Q_,ne_eq,QV,Zi,L0]
   ·cases h
  ·cases h
open Classical in
def F94:List D->Option D
 |[.agg [.str n,.str p,.slice nl _ xs]]=>if NE nl xs then some (.agg [.str n,.str p,.slice nl [] xs])else none
 |_=>none
open Classical in
def aEn{n p:Bs}{nl:Bool}{t:Id}{l:List Rl}(hl:l.length<=1000000)(c:nl=true->l=[]):F94 [.agg [.str n,.str p,.slice nl t (Ar l)]]=some (.agg [.str n,.str p,.slice nl [] (Ar l)]):=by
 show(if _ then _ else _)=_;rw[if_pos (LP hl c)]
def aRs:Kq F94 134:=by
 obtain⟨S,j,hl⟩:=Bd (Aa aR0 Ad);have a:=hl 198 _ rfl;clear hl;refine AK (S:=S) j (Aj func134:Fn Qf 134 8 aT1 [.cell (some 3) 2]) (λds r h=>?_) (λds r h=>?_)
 ·unfold F94 at h;split at h
  ·simp
  ·cases h
 ·unfold F94 at h;split at h
  ·rename_i n p nl t xs;split at h
   ·rename_i y;obtain⟨l,rfl,hl,c,e⟩:=IH y;simp only[Qb]at h;subst h;have b:=aIK (t:=[]) hl c;unfold aT1;simp only[↓C2,GJ,simprocAttr,Ah,Au,Av,Qi,Qo,Qn,Qp,and_false,Qv,Be,AT,Ab a,b]
   ·cases h
  ·cases h
def wW(k:Tk):Prop:=k.2.2.2.length<=1000000∧(k.2.2.1=true->k.2.2.2=[])
open Classical in
def F35:List D->Option D
 |[.agg [.slice _ _ xs],.str s]=>if EY xs∧∀k∈C8 xs,wW k then some (.tup (if A0 (C8 xs) s=true then [O0 (Bc (C8 xs) (IQ (C8 xs) s)),.bool true]else [.agg [.str [],.str [],.slice true [] []],.bool false]))else none
 |_=>none
def aRx:Kq F35 81:=by
 obtain⟨S,o,hl⟩:=Bd (Aa yX (Aa aRs Ad));have u:=hl 40 _ rfl;have a:=hl 134 _ rfl;clear hl;refine AK (S:=S) o (Aj func81:Fn Qf 81 23 aUl [.cell (some 3) 4,.t 5]) (λds r h=>?_) (λds r h=>?_)
 ·unfold F35 at h;split at h
  ·simp
  ·cases h
 ·unfold F35 at h;split at h
  ·rename_i nl t xs s;split at h
   ·rename_i y;obtain⟨y,g⟩:=y;obtain⟨l,rfl,hl,e⟩:=Ep y;rw[e]at g h;simp only[Qb]at h;subst h;have z:=Ny (nl:=nl) (t:=[]) (s:=s) hl;have m:=kT l;unfold aUl;cases hf:A0 l s with
    |false=>simp only[↓C2,GJ,simprocAttr,Ah,Au,Av,Qi,Qo,Qn,Qp,and_false,Qv,AT,A4,B7,Ab u,z,hf]
    |true=>
     have hi:IQ l s<l.length:=by
      grind [A0]
     rw[hf]at z;generalize IQ l s=i at z hi;have f:(0:Int)<=(i:Int):=O
     have d:=ID (l:=l) (j:=i) hi;have w:Bc l i∈l:=by simp[Bc,Qc hi]
     have x:=g _ w;generalize Bc l i=k at d x;obtain⟨n,q,v,rs⟩:=k;replace d:(AG l)[i]?=some (.agg [.str n,.str q,.slice v [] (Ar rs)]):=d;have b:=aEn (n:=n) (p:=q) (t:=[]) x.1 x.2;simp only[↓C2,GJ,simprocAttr,Ah,Au,Av,Qi,Qu,Qz,Qo,Qn,Qp,and_false,Qv,AT,A4,Ab u,z,Ab a,b,f,d,Qj,O0]
   ·cases h
  ·cases h
def aGR:=y1 f190 3 [] []
def aGQ:=y1 f190 11 [] []
def aUs:=y0 f190 [] [(3,aGR),(11,aGQ)]
def aJ8:Fn Qf 190 36 aUs [.t 2]:=Aj func190
abbrev sz3:D->Bool:=eA 3
def N0:List D->Option D
 |[.slice _ _ L]=>match EM L with
  |some ys=>if L.length<=1000∧0<ys.length∧ys.length<=100000∧ys.all sz3=true then some (.slice false [] ys)else none
  |none=>none
 |_=>none
set_option maxRecDepth 20000 in
def Vn(w:World)(k:Nat)(f:0<k)(g:k<=1000000):
  Calls Qf 306 #[.slice none 0 0,.int .i64 (k:Int)] w λe s=>e= .returned (.slice (some ⟨w.heap.size,0,none⟩) 0 (grownCap w k 0 107))∧s=w.drew.alloc (.cells (Builtin.zeroCells #[.string .empty,.string .empty,.slice none 0 0] k++Builtin.zeroCells #[.string .empty,.string .empty,.slice none 0 0] (grownCap w k 0 107-k)) 107):=by
 have z:=Lib.run_append_nil_zeros (P:=Qf) w 29 3 29 107 t107 (.agg #[.string .empty,.string .empty,.slice none 0 0]) .i64 .i64 underlying29 underlying3 Z Z k f V O (by show k*56<=_;omega)
 go_enter func306,ntmps306
 go_wp2_with (first|(at_builtin;refine Lib.wpList_append_run _ rfl _ _ _ _ rfl _ _ rfl rfl _ _ z ?_))
 all_goals go_ret
 all_goals exact YY
def aRD:(Dq 107).ok Qf 306:=by
 refine L7 (sz:=3) ⟨_,func306,Z,Z⟩ V ⟨t107,(.agg #[.string .empty,.string .empty,.slice none 0 0]),Z,Z,Z,Z⟩ (λw k f g=>?_);refine(Vn w k f g).mono ?_;rintro e s ⟨rfl,rfl⟩;refine⟨_,_,grownCap_le_maxLen w k 0 107 Xs,?_,rfl,rfl⟩;have z:=grownCap_ge w k 0 107;simp only[Zx,size_zeroCells];simp;omega
def SR{ds:List D}{r:D}(h:N0 ds=some r):∃nl t L ys,ds=[.slice nl t L]∧EM L=some ys∧L.length<=1000∧0<ys.length∧ys.length<=100000∧ys.all (eA 3)=true∧r= .slice false [] ys:=by
 unfold N0 at h;split at h
 ·grind
 ·cases h
def aRR(a:(Dq 107).ok Qf 306):Kq N0 253:=nM (pt:=9) (bytes:=56) (Aj func253:Fn Qf 253 36 aUp [.t 2]) O a λ_ _ h=>SR h
set_option maxRecDepth 20000 in
def Vo(w:World)(k:Nat)(f:0<k)(g:k<=1000000):
  Calls Qf 250 #[.slice none 0 0,.int .i64 (k:Int)] w λe s=>e= .returned (.slice (some ⟨w.heap.size,0,none⟩) 0 (grownCap w k 0 68))∧s=w.drew.alloc (.cells (Builtin.zeroCells #[.string .empty,.int .i64 0,.bool false] k++Builtin.zeroCells #[.string .empty,.int .i64 0,.bool false] (grownCap w k 0 68-k)) 68):=by
 have z:=Lib.run_append_nil_zeros (P:=Qf) w 26 3 26 68 t68 (.agg #[.string .empty,.int .i64 0,.bool false]) .i64 .i64 underlying26 underlying3 Z Z k f V O (by show k*32<=_;omega)
 go_enter func250,ntmps250
 go_wp2_with (first|(at_builtin;refine Lib.wpList_append_run _ rfl _ _ _ _ rfl _ _ rfl rfl _ _ z ?_))
 all_goals go_ret
 all_goals exact YY
def aJm:(Dq 68).ok Qf 250:=by
 refine L7 (sz:=3) ⟨_,func250,Z,Z⟩ V ⟨t68,(.agg #[.string .empty,.int .i64 0,.bool false]),Z,Z,Z,Z⟩ (λw k f g=>?_);refine(Vo w k f g).mono ?_;rintro e s ⟨rfl,rfl⟩;refine⟨_,_,grownCap_le_maxLen w k 0 68 Xs,?_,rfl,rfl⟩;have z:=grownCap_ge w k 0 68;simp only[Zx,size_zeroCells];simp;omega
def aSi(a:(Dq 68).ok Qf 250):Kq N0 190:=nM (pt:=9) (bytes:=32) aJ8 O a λ_ _ h=>SR h
def Cn:Tk:=([114,111,111,116],[],false,[([],63)])
def aI1:List D->Option D
 |[]=>some (O0 Cn)
 |_=>none
def aSf:Kq aI1 133:=by
 refine AK (S:=λ_=>none) A2 (Aj func133:Fn Qf 133 4 aMe [.cell (some 3) 0]) (λds r h=>?_) (λds r h=>?_)
 ·grind [aI1]
 ·unfold aI1 at h;split at h
  ·simp only[Qb]at h;subst h;unfold aMe;simp only[↓C2,GJ,simprocAttr,Ah,Au,Av,Qi,Qu,Qz,Qo,QB,QE,Qn,Qp,and_false,Qv,Be,AT,B7,E4,Q_,QV,Zi,O0,Cn,Ar,rlD,Q0,QV]
  ·cases h
def F48:List D->Option D
 |[]=>some (.agg [.slice false [] (AG [Cn])])
 |_=>none
def aRt:Kq F48 80:=by
 obtain⟨S,j,hl⟩:=Bd (Aa aSf Ad);have a:=hl 133 _ rfl;clear hl;refine AK (S:=S) j (Aj func80:Fn Qf 80 4 aUe [.cell (some 1) 0]) (λds r h=>?_) (λds r h=>?_)
 ·grind [F48]
 ·unfold F48 at h;split at h
  ·simp only[Qb]at h;subst h;have k:aI1 []=some (.agg [.str [114,111,111,116],.str [],.slice false [] [.agg [.str [],.int .u8 63]]]):=rfl;unfold aUe;simp only[↓C2,Gt,simprocAttr,Ah,Au,Av,Qx,Qw,Qh,Qk,Qm,Qg,and_self,Qi,Qz,Qo,QB,QE,Qn,Qp,Qv,Be,AT,B7,E4,Q_,QV,Zi,Ab a,k,AG,O0,Cn,Ar,rlD,Q0,QV]
  ·cases h
def EU(l:List Tk)(k:Tk):List Tk:=l.take (IQ l k.1)++k::l.drop (IQ l k.1)
open Classical in
def aI0:List D->Option D
 |[.agg [.slice _ _ xs],.agg [.str n,.str p,.slice nl _ ys]]=>if EY xs∧xs.length<=90000∧NE nl ys then some (.agg [.slice false [] (AG (EU (C8 xs) (n,p,nl,Ba ys)))])else none
 |_=>none
open Classical in
def aIZ{nl0 nl:Bool}{t0 t:Id}{l:List Tk}{n p:Bs}{rs:List Rl}(hl:l.length<=90000)(i:rs.length<=1000000)(c:nl=true->rs=[]):
  aI0 [.agg [.slice nl0 t0 (AG l)],.agg [.str n,.str p,.slice nl t (Ar rs)]]=some (.agg [.slice false [] (AG (EU l (n,p,nl,rs)))]):=by
 have h:EY (AG l)∧(AG l).length<=90000∧NE nl (Ar rs):=⟨EA O,by rw[BS];exact hl,LP i c⟩;show(if _ then _ else _)=_;rw[if_pos h,Bx,AY]
def aSd:Kq aI0 195:=by
 obtain⟨S,o,hl⟩:=Bd (Aa yX (Aa aRs (Aa (aRR aRD) Ad)));have u:=hl 40 _ rfl;have a:=hl 134 _ rfl;have c:=hl 253 _ rfl;clear hl;refine AK (S:=S) o (Aj func195:Fn Qf 195 28 aMb [.cell (some 1) 4]) (λds r h=>?_) (λds r h=>?_)
 ·unfold aI0 at h;split at h
  ·simp
  ·cases h
 ·unfold aI0 at h;split at h
  ·rename_i nl0 t0 xs n p nl t ys;split at h
   ·rename_i k;obtain⟨k,h9,hr⟩:=k;obtain⟨l,rfl,hl,e⟩:=Ep k;obtain⟨rs,rfl,j,m,f⟩:=IH hr;rw[e,f]at h;rw[BS]at h9;simp only[Qb]at h;subst h;have z:=Ny (nl:=nl0) (t:=[]) (s:=n) hl;have la:=aEn (n:=n) (p:=p) (t:=[]) j m;have sa:IQ l n<=l.length:=UL l n _ _ _ O;unfold EU;generalize IQ l n=i at z sa;generalize A0 l n=fd at z;have va:(0:Int)<=(i:Int):=by omega
    have g:(i:Int)<=(l.length:Int):=O
    have d:l.length<=l.length:=QA _;have na:(AG l).take i=AG (l.take i):=(ZJ ..).symm;have v:((AG l).drop i).take (l.length-i)=AG (l.drop i):=by
     rw[Q9 (by rw[ZA,BS];omega)];exact(List.map_drop ..).symm
    have b:N0 [.slice false [] [.slice nl0 [] (AG (l.take i)),.slice false [] [.agg [.str n,.str p,.slice nl [] (Ar rs)]],.slice nl0 [] (AG (l.drop i))]]=some (.slice false [] (AG (l.take i++(n,p,nl,rs)::l.drop i))):=by
     have w:EM [.slice nl0 [] (AG (l.take i)),.slice false [] [.agg [.str n,.str p,.slice nl [] (Ar rs)]],.slice nl0 [] (AG (l.drop i))]=some (AG (l.take i++(n,p,nl,rs)::l.drop i)):=by
      simp[EM,AG,O0]
     simp only[N0,w];rw[if_pos];refine⟨U,?_,?_,?_⟩
     ·grind [BS]
     ·grind [BS]
     ·rw[Qt];intro x q;obtain⟨y,_,rfl⟩:=QZ.1 q;rfl
    unfold aMb;simp only[↓C2,GJ,simprocAttr,Ah,Au,Av,Qi,Qz,Qo,QB,QE,Qn,Qp,and_false,Qv,B7,E4,pV,Q_,QV,Zi,Ab u,z,Ab a,la,Ab c,b,BS,va,g,na,v,Qj,QA];refine AS ?_;simp only[↓C2,Gt,simprocAttr,Ah,Au,Av,Qw,Qh,Qk,Qm,Qg,and_self,Qi,QB,Qn,Qv,Be,AT,QV,Zi,na,v,QA]
   ·cases h
  ·cases h
def Wp{S:Gq}{ns:Id}{a b l:List Rl}{nl na nb:Bool}{t ta tb:Id}{Q:Ex->St->Prop}{e:Bool}{p:D}{i:Int}(ma:S 41=some (Ac F95))(c:S 307=some (Ac aEx))
  (la:a.length<=1000000) (lb:b.length<=1000000) (pb:Ca b) (w:FT a) (cb:FT b) (hb:l.length<=1000000) (ra:Ca l)
  (pa:∀y,e=false->y.s 4= .bool false->Q .ret y) (ga:∀y,e=true->y.s 0= .slice na ta (Ar a)->y.s 1= .slice nb tb (Ar b)->y.s 19=p->y.s 20= .int .i64 i->Q (.exit 2) y):
  ∀(f j:Nat) y g,l.length=j+f->Eo a b l f j=e->y.s 0= .slice na ta (Ar a)->y.s 1= .slice nb tb (Ar b)->y.s 19=p->y.s 20= .int .i64 i->y.s 23= .slice nl t (Ar l)->y.s 24= .int .i64 (l.length:Int)->y.s 25= .int .i64 (j:Int)->A5 S ns OK Q y g:=by
 intro f;induction f with
 |zero=>
  intro j y g hf he h0 h1 m d o n z;refine Af OK.eq_1 ?_;have:¬((j:Int)<l.length):=O
  simp only[↓C2,Gy,GI,reduceIte,Qe,n,z,this];exact ga _ he.symm h0 h1 m d
 |succ f ih=>
  intro j y g hf he h0 h1 m d o n z;refine Af OK.eq_1 ?_;unfold Eo at he;have hj:j<l.length:=O
  have x:((j:Int)<l.length):=O
  have oa:=nJ (j:=j);have hw:=wJ (j:=j) O;have ja:(Ar l)[j]?=some (.agg [.str (CB l j).1,.int .u8 (CB l j).2]):=Oh hj;have hq:=V_ ra hj;unfold fM at he;generalize CB l j=r at ja hq he;obtain⟨q,k⟩:=r;simp only at ja hq he;have u:=kF (nl:=na) (t:=[]) (s:=q) la;have v:=nN (s:=q) w;have h:=aIF (nl:=nb) (t:=[]) (s:=q) lb cb pb hq v.1 v.2;unfold Mz at h;generalize WP (C0 b q).toNat (C0 a q).toNat=hh at he h;obtain⟨ka,fa,da⟩:=y;simp only at h0 h1 m d o n z;cases hh with
  |true=>
   rw[if_pos rfl]at he;simp only[↓C2,GJ,reduceIte,Qd,Qe,h0,h1,o,n,z,x,oa,Qj,ja,Ab ma,u,Ab c,h,Ah,Au,Av,QL,QY,Qi,Qu,Qz,Qo];refine AS ?_;simp only[↓C2,Gy,He,reduceIte,Qd,Qe,z,hw];exact ih (j+1) _ _ O he h0 h1 m d o n rfl
  |false=>
   rw[if_neg U]at he;simp only[↓C2,GJ,reduceIte,Qd,Qe,h0,h1,o,n,z,x,oa,Qj,ja,Ab ma,u,Ab c,h,Ah,Au,Av,QL,QY,Qi,Qu,Qz,Qo];refine AS ?_;simp only[↓C2,Gy,He,reduceIte,Qd,Qe];exact pa _ he.symm rfl
def aSe:Kq aIY 254:=by
 obtain⟨S,hS,hl⟩:=Bd (Aa V7 (Aa aNK (Aa aRS Ad)));have s:=hl 168 _ rfl;have ma:=hl 41 _ rfl;have c:=hl 307 _ rfl;clear hl;refine AK (S:=S) hS (Aj func254:Fn Qf 254 40 aMc [.t 4]) (λds r h=>?_) (λds r h=>?_)
 ·grind [dY]
 ·obtain⟨na,ta,a,nb,tb,b,rfl,la,lb,pa,pb,w,cb,rfl⟩:=dY h;have ea:=U2 (nl:=na) (t:=[]) la pa;have eb:=U2 (nl:=nb) (t:=[]) lb pb;have i:=MT a;have j:=MT b;have k:=TC a;have n:=TC b;unfold aMc Gj;generalize Cp a=xa at *;generalize Cp b=xb at *;by_cases f:xa=0
  ·by_cases g:xb=0
   ·subst f g;have z2:((2:Nat):Int)=2:=rfl;have w1:IntKind.i64.wrap ((0:Int)+1)=1:=GS O O;have v:IntKind.i64.wrap ((1:Int)+1)=2:=GS O O;rw[Zs];have x:a.all (fM a b)=Eo a b a a.length 0:=by rw[Il _ _ _ _ _ O];rfl
    have o:b.all (fM a b)=Eo a b b b.length 0:=by rw[Il _ _ _ _ _ O];rfl
    rw[x,o];simp only[↓C2,Gt,reduceIte,Qd,Qe,Ab s,ea,eb,B7,E4,QY,Qh,Qk,Qm,and_self,Qu,Qz,QB,QE];refine Af OJ.eq_1 ?_;simp only[↓C2,Gy,GI,reduceIte,Qd,Qe,AW,z2,ZO,Int.toNat_zero,ZC,Qg,and_self];refine Wp (a:=a) (b:=b) (l:=a) (e:=Eo a b a a.length 0) ma c la lb pb w cb la pa (λy u z=>?_) (λy he q u m d=>?_) a.length 0 _ _ O rfl rfl rfl rfl rfl rfl rfl rfl
    ·simp only[↓C2,Gt,u,z,Za,ZF]
    ·simp only[↓C2,Gt,reduceIte,Qd,Qe,d,he,w1];refine Af OJ.eq_1 ?_;simp only[↓C2,Gy,GI,reduceIte,Qd,Qe,m,d,AW,z2,ZO,Int.toNat_one,Int.reduceLE,Qg,QM,and_self];refine Wp (a:=a) (b:=b) (l:=b) (e:=Eo a b b b.length 0) ma c la lb pb w cb lb pb (λy u z=>?_) (λy p q u m d=>?_) b.length 0 _ _ O rfl q u m rfl rfl rfl rfl
     ·simp only[↓C2,Gt,u,z,he,ZF]
     ·simp only[↓C2,Gt,reduceIte,Qd,Qe,d,he,p,v];refine Af OJ.eq_1 ?_;simp only[↓C2,Gt,reduceIte,Qd,Qe,d,he,p,Zn]
   ·simp only[↓C2,Gt,reduceIte,Qd,Qe,Ab s,ea,eb,g,f]
    try simp
  ·simp only[↓C2,Gt,reduceIte,Qd,Qe,Ab s,ea,f]
   try simp
def H5(l:List Tk)(k:Tk):Option (List Tk)×Int:=
 if LK k.1 k.2.1 k.2.2.2≠0 then(none,LK k.1 k.2.1 k.2.2.2)else if k.2.1=[]then(none,2)else if A0 l k.1=true then(none,20)else if A0 l k.2.1=false then(none,6)
 else if Gj k.2.2.2 (Bc l (IQ l k.2.1)).2.2.2=false then(none,13)else(some (EU l k),0)
def VF(nl:Bool)(l:List Tk)(o:Option (List Tk)):D:=match o with
 |none=> .agg [.slice nl [] (AG l)]
 |some q=> .agg [.slice false [] (AG q)]
def LV(l:List Rl):Prop:=l.length<=1000000∧Ca l∧FT l
open Classical in
def F50:List D->Option D
 |[.agg [.slice nl0 _ xs],.agg [.str n,.str p,.slice nl _ ys]]=>if(EY xs∧xs.length<=90000∧∀k∈C8 xs,LV k.2.2.2)∧NE nl ys∧LV (Ba ys)∧n.length<=1000000∧p.length<=1000000
   then some (.tup [VF nl0 (C8 xs) (H5 (C8 xs) (n,p,nl,Ba ys)).1,.int .i64 (H5 (C8 xs) (n,p,nl,Ba ys)).2])else none
 |_=>none
def aVP:Kq F50 196:=by
 obtain⟨S,hS,hl⟩:=Bd (Aa aJr (Aa yX (Aa aSe (Aa aSd Ad))));have c:=hl 135 _ rfl;have da:=hl 40 _ rfl;have f:=hl 254 _ rfl;have q:=hl 195 _ rfl;clear hl;refine AK (S:=S) hS (Aj func196:Fn Qf 196 54 aUd [.cell (some 1) 4,.t 5]) (λds r h=>?_) (λds r h=>?_)
 ·unfold F50 at h;split at h
  ·simp
  ·cases h
 ·unfold F50 at h;split at h
  ·rename_i nl0 t0 xs n p nl t ys;split at h
   ·rename_i y;obtain⟨⟨y,h9,hk⟩,hr,g,hn,hp⟩:=y;obtain⟨l,rfl,hl,e⟩:=Ep y;obtain⟨rs,rfl,ga,m,e2⟩:=IH hr;rw[e,e2]at h;rw[e]at hk;rw[e2]at g;rw[BS]at h9;simp only[Qb]at h;subst h;have v:=Vb (n:=n) (p:=p) (nl:=nl) (t:=[]) ga g.2.1 hn hp;have a:=Ny (nl:=nl0) (t:=[]) (s:=n) hl;have b:=Ny (nl:=nl0) (t:=[]) (s:=p) hl;have o:=aIZ (nl0:=nl0) (t0:=[]) (n:=n) (p:=p) (t:=[]) h9 ga m;unfold aUd H5;simp only;generalize LK n p rs=e at *;by_cases he:e=0
    ·subst he;by_cases d:p=[]
     ·subst d;simp only[↓C2,GJ,simprocAttr,Ah,Au,Av,Qi,Qo,Qn,Qp,and_false,Qv,AT,A4,Ab c,v,ne_eq];simp[VF];rfl
     ·cases h1:A0 l n with
      |true=>
       rw[h1]at a;simp only[↓C2,GJ,simprocAttr,Ah,Au,Av,Qi,Qo,Qn,Qp,and_false,Qv,AT,A4,Ab c,v,Ab da,a,ne_eq,d];simp[VF];rfl
      |false=>
       rw[h1]at a;cases h2:A0 l p with
       |false=>
        rw[h2]at b;simp only[↓C2,GJ,simprocAttr,Ah,Au,Av,Qi,Qo,Qn,Qp,and_false,Qv,AT,A4,Ab c,v,Ab da,a,b,ne_eq,d];simp[VF];rfl
       |true=>
        have hi:IQ l p<l.length:=by
         grind [A0]
        rw[h2]at b;generalize IQ l p=i at b hi;have va:(0:Int)<=(i:Int):=O
        have ja:=ID (l:=l) (j:=i) hi;have z:Bc l i∈l:=by simp[Bc,Qc hi]
        have x:=hk _ z;generalize Bc l i=k at ja x;obtain⟨n2,p2,ma,u⟩:=k;replace ja:(AG l)[i]?=some (.agg [.str n2,.str p2,.slice ma [] (Ar u)]):=ja;have w:=aIX (na:=nl) (nb:=ma) (ta:=[]) (tb:=[]) ga x.1 g.2.1 x.2.1 g.2.2 x.2.2;simp only at w;cases h3:Gj rs u with
        |false=>
         rw[h3]at w;simp only[↓C2,GJ,simprocAttr,Ah,Au,Av,Qi,QB,QE,QP,Qn,Qp,and_false,Qv,Ab c,v,Ab da,a,b,ne_eq,d,va,ja,Qj,Ab f,w];refine AS ?_;simp only[↓C2,Gt,simprocAttr,Ah,Au,Av,Qx,Qw,Qh,Qk,Qm,Qg,and_self,Qi,Qo,Qn,Qp,Qv,AT,A4,d];simp[VF];rfl
        |true=>
         rw[h3]at w;simp only[↓C2,GJ,simprocAttr,Ah,Au,Av,Qi,QB,QE,QP,Qn,Qp,and_false,Qv,Ab c,v,Ab da,a,b,ne_eq,d,va,ja,Qj,Ab f,w];refine AS ?_;simp only[↓C2,GJ,simprocAttr,Ah,Au,Av,Qi,Qo,Qn,Qp,and_false,Qv,AT,A4,Ab q,o,d];simp[VF];rfl
    ·simp only[↓C2,GJ,simprocAttr,Ah,Au,Av,Qi,Qo,Qn,Qp,and_false,Qv,AT,A4,Ab c,v,ne_eq,he];simp[VF];rfl
   ·cases h
  ·cases h
def aGf{S:Gq}{l:List Tk}{nl0:Bool}{t0:Id}{Q:Ex->St->Prop}(o:l.length<=1000000)
  (x:∀y nl t,nl=decide (l.length=0)->y.s 3= .slice nl t (l.map λk=> .str k.1)->Q (.exit 0) y):
  ∀(f j:Nat) nl t y g,l.length=j+f->nl=decide (j=0)->Gw y.m y.c 9 nl t->y.s 3= .slice nl t ((l.take j).map λk=> .str k.1)->y.s 7= .slice nl0 t0 (AG l)->y.s 8= .int .i64 (l.length:Int)->y.s 9= .int .i64 (j:Int)->A5 S [] OH Q y g:=by
 intro f;induction f with
 |zero=>
  intro j nl t y g b a hG i h7 h8 h9;refine Af OH.eq_1 ?_;have:¬((j:Int)<l.length):=O
  simp only[↓C2,Gy,GI,reduceIte,Qe,h8,h9,this];refine x _ nl t (by rw[a,show j=l.length by omega]) ?_;rw[show j=l.length by omega,Zp]at i;exact i
 |succ f ih=>
  intro j nl t y g b a hG i h7 h8 h9;refine Af OH.eq_1 ?_;have q:j<l.length:=O
  have r:((j:Int)<l.length):=O
  have oa:=nJ (j:=j);have z:=wJ (j:=j) O;have d:=ID (l:=l) (j:=j) q;have na:(l.take (j+1)).map (λk:Tk=>D.str k.1)=(l.take j).map (λk:Tk=>D.str k.1)++[.str (Bc l j).1]:=by
   rw[Zb q,List.map_append];simp[Bc,Qc q]
  have ra:((l.take j).map (λk:Tk=>D.str k.1)).length=j:=Xb
  have e:nl=true->(l.take j).map (λk:Tk=>D.str k.1)=[]:=by
   simp_all
  generalize (l.take j).map (λk:Tk=>D.str k.1)=w at i na ra e;generalize Bc l j=k at d na;obtain⟨n,p,v,rs⟩:=k;replace d:(AG l)[j]?=some (.agg [.str n,.str p,.slice v [] (Ar rs)]):=d;obtain⟨ka,fa,u⟩:=y;simp only at i h7 h8 h9 hG na;simp only[↓C2,GJ,simprocAttr,i,h7,h8,h9,r,oa,Qj,d,Ah,Au,Av,Qi,Qu,Qz,Qo,and_false];refine aB ⟨O,rfl,?_⟩ ?_
  ·first
    |exact(hG.put.put.more O).grow O
    |exact(Gw.put (Gw.put hG O) O).grow O
  rw[BM e,←na];simp only[↓C2,Gt,simprocAttr,h9,z];refine ih (j+1) false _ _ _ O U ?_ rfl h7 h8 rfl;exact Gw.new Xa
open Classical in
def kG:List D->Option D
 |[.agg [.slice _ _ xs]]=>if EY xs then some (.slice (decide ((C8 xs).length=0)) [] ((C8 xs).map λk=> .str k.1))else none
 |_=>none
def aSc:Kq kG 19:=by
 refine AK (S:=λ_=>none) A2 (Aj func19:Fn Qf 19 20 aL4 [.t 2]) (λds r h=>?_) (λds r h=>?_)
 ·unfold kG at h;split at h
  ·simp
  ·cases h
 ·unfold kG at h;split at h
  ·rename_i nl t xs;split at h
   ·rename_i p;obtain⟨l,rfl,hl,e⟩:=Ep p;rw[e]at h;simp only[Qb]at h;subst h;unfold aL4;simp only[↓C2,Gy,He,simprocAttr,BS,Ah,Qx,Qw,Qh,Qk,Qm,Qg,and_self];refine aGf (l:=l) (nl0:=nl) (t0:=t) hl (λy nl' x u z=>?_) l.length 0 true [] _ _ O U (.inl rfl) rfl rfl rfl rfl;simp only[↓C2,Gt,simprocAttr,z];rw[u]
    first|done|rfl|exact⟨rfl,rfl⟩
   ·cases h
  ·cases h
def aLM:=y0 f265 [] []
def aKu:=y0 f241 [] []
def aK0:=y0 f170 [] []
def vI:List D->Option D
 |[.int .i64 n,.int .i64 lo,.int .i64 hi]=>some (.bool (decide (lo<=n∧n<=hi)))
 |_=>none
def aJj:Kq vI 170:=by
 refine AK (S:=λ_=>none) A2 (Aj func170:Fn Qf 170 15 aK0 [.t 6]) (λds r h=>?_) (λds r h=>?_)
 ·unfold vI at h;split at h
  ·simp
  ·cases h
 ·unfold vI at h;split at h
  ·rename_i n lo hi;simp only[Qb]at h;subst h;unfold aK0;simp only[↓C2,Gy,simprocAttr]
   repeat' (first|(refine aG (λh=>?_) (λh=>?_)<;>try (exfalso;omega))|(simp only[↓C2,Gt,simprocAttr,h,and_self,false_and]))
   all_goals (simp_all<;>omega)
  ·cases h
def vB:D->D->Option D
 | .junk,.int .i64 x=>some (.bool (!decide (1<=x∧x<=999)))
 |_,_=>none
def aO5:(Im vB).ok Qf 241:=by
 obtain⟨S,j,hl⟩:=Bd (Aa aJj Ad);have g:=hl 170 _ rfl;clear hl;refine Np (S:=S) j (Aj func241:Fn Qf 241 6 aKu [.t 2]) (λx caps m fr c d e z w hl=>⟨O,?_⟩);unfold vB at z;split at z
 ·rename_i n;simp only[Qb]at z;subst z;have a:∀n lo hi,vI [.int .i64 n,.int .i64 lo,.int .i64 hi]=some (.bool (decide (lo<=n∧n<=hi))):=λ_ _ _=>rfl
  unfold aKu;simp only[↓C2,Gt,simprocAttr,Ab g,a]
  try exact λi o y h=>h
 ·cases z
def aOL:(Fl 241 none vB).ok Qf 293:=Nb O aTS rfl aO5
def aUu:(eC 241 none vB).ok Qf 240:=nH O aTT aOL
def lV(nl:Bool)(xs:List D):Prop:=xs=AA (Da xs)∧xs.length<=1000000∧(nl=true->xs=[])
def zL{nl:Bool}{l:List Mt}(hl:l.length<=1000000)(c:nl=true->l=[]):lV nl (AA l):=⟨by rw[By],by rw[AV];exact hl,λh=>by rw[c h];rfl⟩
def qS{nl:Bool}{xs:List D}(h:lV nl xs):∃l:List Mt,xs=AA l∧l.length<=1000000∧(nl=true->l=[])∧Da xs=l:=by
 refine⟨Da xs,h.1,?_,λc=>?_,rfl⟩
 ·have:=h.2.1;rw[h.1,AV]at this;exact this
 ·rw[h.2.2 c];rfl
def rS(bs:List Bool):A9 bs<bs.length:=by
 unfold A9;cases h:bs.findIdx? id with
 |none=>simp only;omega
 |some k=>
  rw[QT]at h;obtain⟨g,_⟩:=h;simp only;omega
def WZ(l:List Mt)(p:Bs):B0 l p<l.length:=by
 have:=rS (l.map λm=>decide (m.1=p));rw[Qy]at this;exact this
open Classical in
def aEC:List D->Option D
 |[.agg [.slice _ _ xs],.str p]=>if xs=AA (Da xs)∧xs.length<=1000000 then some (.tup (if B0 (Da xs) p<0 then [MI ([],0,false),.int .i64 14]else [MI (Cu (Da xs) (B0 (Da xs) p).toNat),.int .i64 0]))else none
 |_=>none
def aR5:Kq aEC 265:=by
 obtain⟨S,o,hl⟩:=Bd (Aa zC Ad);have c:=hl 187 _ rfl;clear hl;refine AK (S:=S) o (Aj func265:Fn Qf 265 18 aLM [.cell (some 3) 4,.t 5]) (λds r h=>?_) (λds r h=>?_)
 ·unfold aEC at h;split at h
  ·simp
  ·cases h
 ·unfold aEC at h;split at h
  ·rename_i nl t xs p;split at h
   ·rename_i y;obtain⟨q,hl⟩:=y;simp only[Qb]at h;subst h;generalize Da xs=l at q;subst q;rw[AV]at hl;have z:=OS (nl:=nl) (t:=[]) (p:=p) hl;have k:=WZ l p;unfold aLM;generalize B0 l p=i at z k;by_cases hi:i<0
    ·simp only[↓C2,GJ,simprocAttr,Ah,Au,Av,Qi,Qo,Qn,Qp,QQ,and_false,AT,A4,B7,Ab c,z,hi];simp[MI];rfl
    ·obtain⟨j,rfl⟩:=QX (show 0<=i by omega);have s:j<l.length:=by omega
     have w:=nJ (j:=j);have d:(AA l)[j]?=some (.agg [.str (Cu l j).1,.int .i64 (Cu l j).2.1,.bool (Cu l j).2.2]):=Ok s;simp only[↓C2,GJ,simprocAttr,Ah,Au,Av,Qi,Qu,Qz,Qo,Qn,Qp,QQ,and_false,AT,A4,Ab c,z,hi,w,d,Qj];simp[MI];rfl
   ·cases h
  ·cases h
def WW{bs:List Bool}{j:Nat}(h:bs[j]?=some true)(g:∀i,i<j->bs[i]?=some false):A9 bs=j:=by
 have q:j<bs.length:=(Qq.1 h).1;have:bs.findIdx? id=some j:=by
  rw[QT];refine⟨q,by rw[Qc q]at h;simpa using h,λi hi=>?_⟩;have:=g i hi;rw[Qc O]at this;simp[Qb]at this;simp[this]
 simp only[A9,this]
def WX{bs:List Bool}(g:∀i,i<bs.length->bs[i]?=some false):A9 bs=-1:=by
 have:bs.findIdx? id=none:=Zl.2 λb ta=>by
  obtain⟨i,hi,rfl⟩:=QW ta;have:=g i hi;rw[Qc hi]at this;simpa using QF this
 simp only[A9,this]
def Ch(l:List Mt)(p:Bs):Int:=A9 (l.map λm=>Ci p m.1)
def aMh:=y0 f191 [] []
def nC:=y1 f251 2 [] []
def aLu:=y0 f251 [] [(2,nC)]
def Ox:=y1 f296 4 [] []
def Ow:=y1 f296 1 [] [(4,Ox)]
def aKN:=y0 f296 [] [(1,Ow)]
def aLt:=y0 f252 [] []
def aKM:=y0 f305 [] []
def aUf:=y0 f129 [(6,[(3,1)])] []
def m0t:Mt:=([],0,false)
def fY(a b:Mt):Bool:=decide (CE a.1 b.1<0)
def aWX(i:Id)(m:Gu)(xs:List Mt):Prop:=∀j,j<xs.length->m i (j*3)=some (.str (xs.getD j m0t).1)∧m i (j*3+1)=some (.int .i64 (xs.getD j m0t).2.1)∧m i (j*3+2)=some (.bool (xs.getD j m0t).2.2)
structure Nw (i:Id) (m0 m:Gu) (xs:List Mt):Prop where
 row:aWX i m xs
 out:∀i' o,(i'≠i∨xs.length*3<=o)->m i' o=m0 i' o
def Nw.put{i:Id}{m0 m:Gu}{xs:List Mt}(h:Nw i m0 m xs){j:Nat}(t:j<xs.length){p:Bs}{q:Int}{b:Bool}:Nw i m0 (m.put i (j*3) [.str p,.int .i64 q,.bool b]) (xs.set j (p,q,b)):=by
 refine⟨λk g=>?_,λv o ho=>?_⟩
 ·rw[Zt]at g;by_cases e:k=j
  ·grind [m0t,Ah]
  ·have a:(xs.set j (p,q,b)).getD k m0t=xs.getD k m0t:=by simp[Zy,List.getElem?_set_ne (Ne.symm e)]
   rw[a];have c:∀d,d<3->¬(i=i∧j*3<=k*3+d∧k*3+d<j*3+[D.str p,.int .i64 q,.bool b].length):=by
    intro d r;simp;omega
   obtain⟨a1,s,x⟩:=h.row k g;exact⟨by rw[Ah,if_neg (by have:=c 0 O;rwa [Q8]at this)];exact a1,by rw[Ah,if_neg (c 1 O)];exact s,by rw[Ah,if_neg (c 2 O)];exact x⟩
 ·rw[Zt]at ho;rw[Ah,if_neg (by rintro⟨e,h1,h2⟩;simp at h2;rcases ho with ho|ho;exact ho e;omega)];exact h.out v o ho
def Nw.swp{i:Id}{m0 m:Gu}{xs:List Mt}(h:Nw i m0 m xs){j:Nat}(t:j+1<xs.length){x y:Mt}(q:xs.getD j m0t=x)(s:xs.getD (j+1) m0t=y):
  Nw i m0 ((m.put i ((j+1)*3) [.str x.1,.int .i64 x.2.1,.bool x.2.2]).put i (j*3) [.str y.1,.int .i64 y.2.1,.bool y.2.2]) (Go.Vd.swp m0t xs j):=by
 unfold Go.Vd.swp;rw[q,s];exact(h.put (j:=j+1) t).put (by rw[Zt];omega)
def h108(a b:Mt):vP [MI a,MI b]=some (.int .i64 (CE a.1 b.1)):=rfl
def aAd{S:Gq}{fr i:Id}{n:Nat}{m0:Gu}{i8:Nat}{Q:Ex->St->Prop}(a:S 192=some (Ac vP))(o:n<=1000):
  ∀(j:Nat)(xs:List Mt) w g,xs.length=n->j<n->w.s 0= .row i n->w.s 1= .int .i64 0->w.s 2= .int .i64 (n:Int)->w.s 3= .fn 192 []->w.s 8= .int .i64 (i8:Int)->w.s 9= .int .i64 (j:Int)->Nw i m0 w.m xs->
   (∀p,p.s 0= .row i n->p.s 1= .int .i64 0->p.s 2= .int .i64 (n:Int)->p.s 3= .fn 192 []->p.s 8= .int .i64 (i8:Int)->Nw i m0 p.m (PB fY m0t xs j)->Q (.exit 2) p)->A5 S fr Ox Q w g:=by
 intro j;induction j with
 |zero=>
  intro xs w g hl hj f q t v h8 h9 I u;refine Af Ox.eq_1 ?_;have c:¬((0:Int)<((0:Nat):Int)):=O
  simp only[↓C2,Gy,GI,simprocAttr,q,h9,c];refine AS ?_;simp only[↓C2,Gy,reduceIte,Qd];exact u _ f q t v h8 I
 |succ j ih=>
  intro xs w g hl hj f q t v h8 h9 I u;refine Af Ox.eq_1 ?_;have c:((0:Int)<((j+1:Nat):Int)):=O
  have w1:IntKind.i64.wrap (((j+1:Nat):Int)-1)=(j:Int):=Xh
  have oa:=nJ (j:=j);have ta:(0:Int)<=((j+1:Nat):Int):=O
  have z:((j:Int)<(n:Int)):=O
  have b:(((j+1:Nat):Int)<(n:Int)):=O
  have bn:(3=1)=False:=U
  obtain⟨a0,a1,a2⟩:=I.row j O;obtain⟨b0,b1,b2⟩:=I.row (j+1) O;obtain⟨x,hx⟩:∃x,xs.getD j m0t=x:=⟨_,rfl⟩;obtain⟨y,hy⟩:∃y,xs.getD (j+1) m0t=y:=⟨_,rfl⟩;have e:=u;unfold PB at e;have r:fY (xs.getD (j+1) m0t) (xs.getD j m0t)=decide (CE (xs.getD (j+1) m0t).1 (xs.getD j m0t).1<0):=rfl;rw[r]at e;rw[hx]at a0 a1 a2 e;rw[hy]at b0 b1 b2 e;clear r;have k:=h108 y x;simp only[MI]at k;obtain⟨ka,fa,da⟩:=w;simp only at f q t v h8 h9 a0 a1 a2 b0 b1 b2 I;by_cases r:CE y.1 x.1<0
  ·rw[if_pos Xz]at e;have q1:((j+1)*3<=j*3)=False:=eq_false O;have q2:((j+1)*3<=j*3+1)=False:=eq_false O;have q3:((j+1)*3<=j*3+1+1)=False:=eq_false O;have d:decide (CE y.1 x.1<0)=true:=by simpa using r
   simp only[↓C2,Gt,simprocAttr,f,q,v,h9,c,oa,ta,z,b,w1,bn,Qj,a0,a1,a2,b0,b1,b2,r,Ab a,k,Au,Av,and_self,Qi];refine AS ?_;simp only[↓C2,Gy,He,simprocAttr,f,h9,oa,ta,z,b,w1,bn,Qj,a0,a1,a2,b0,b1,b2,q1,q2,q3,false_and,and_false,Ah,Au,Av,Qh,Qk,Qm,and_self,Qi,Qo];refine AS ?_;simp only[↓C2,Gy,simprocAttr,h9,w1,bn];refine ih _ _ _ (by rw[kV];exact hl) O f q t v h8 rfl ?_ e;exact I.swp O hx hy
  ·rw[if_neg Xz]at e;simp only[↓C2,Gt,simprocAttr,f,q,v,h9,c,oa,ta,z,b,w1,bn,Qj,a0,a1,a2,b0,b1,b2,r,Ab a,k,Au,Av,and_self,Qi];refine AS ?_;simp only[↓C2,Gy,reduceIte,Qd,bn];exact e _ f q t v h8 I
end Go.Vd
end
