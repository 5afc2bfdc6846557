/- A part of the proof; nothing in it is assumed. -/
import Derived.Test.YtpiplnfjodahpaaGreatDoorMSealsP1
import Derived.Test.YtpiplnfjodahpaaGreatDoorProg
import Derived.Shelf.Strings.Split
import Init
import Derived.Shelf.Strings.OnBuilder
import Derived.Lib.AppendZeros

set_option linter.unusedSimpArgs false
set_option linter.unusedVariables false
set_option linter.defProp false
set_option maxHeartbeats 4000000
set_option maxRecDepth 100000
open And renaming intro→Qa
open Option.some renaming injEq→Qb,inj→QF
open List renaming getElem?_eq_getElem→Qc,getElem?_cons_zero→Qg,length_cons→Qh,length_nil→Qk,getElem?_eq_some_iff→Qq,mem_of_getElem?→Qr,all_eq_true→Qt,take_succ_cons→Qu,length_map→Qy,take_zero→Qz,drop_zero→QB,map_congr_left→QD,drop_succ_cons→QE,suffix_cons→QI,map_map→QJ,getElem?_take_of_lt→QK,getElem?_cons_succ→QM,getElem?_map→QN,head?_cons→QP,findIdx?_eq_some_iff_getElem→QT,getElem?_append_left→QU,map_nil→QV,getElem_of_mem→QW,mem_map→QZ,nil_append→Q_,map_cons→Q0,mem_cons_of_mem→Q1,getElem?_append_right→Q2,drop_eq_getElem_cons→Q4,mem_cons_self→Q5,length_append→Q6,replicate→Q7,take_of_length_le→Q9,take_succ_eq_append_getElem→Zb,append_assoc→Zc,cons_append→Zd,getElem_mem→Ze,count_eq_zero_of_not_mem→Zf,length_take_le→Zg,all_nil→Zi,findIdx?_eq_none_iff→Zl,mem_cons→Zm,length_eq_zero_iff→Zo,take_length→Zp,suffix_refl→Zq,all_append→Zs,length_set→Zt,getElem?_take→Zw,getD→Zy,length_drop→ZA,map_id→ZB,drop_drop→ZE,all_cons→ZI,map_take→ZJ,getLast?→ZK,any_map→ZN,map→ZP,length→ZQ
open Nat renaming reduceEqDiff→Qd,reduceAdd→Qe,zero_add→Qm,zero_ne_one→Qp,succ_ne_zero→Qv,sub_zero→Qw,zero_le→Qx,le_refl→QA,le_of_ble_eq_true→QH,reduceLT→QL,one_ne_zero→QQ,le_trans→QR,reduceLeDiff→QY,add_zero→Q8,lt_of_lt_of_le→Zj,land→Zr,eq_zero_or_pos→Zu,add_sub_cancel→Zv,le_max_right→Zz
open Go.Proofs.Tryz renaming prog→Qf
open Option renaming bind_some→Qi,map_eq_some_iff→Ql,isSome_some→Qo,bind_eq_some_iff→QC,map_some→QO
open Int renaming toNat_natCast→Qj,eq_ofNat_of_zero_le→QX,cast_ofNat_Int→Zk,lt_irrefl→Zn,le_refl→ZC,reduceLT→ZO
open List.cons renaming injEq→Qn
open Prod.mk renaming injEq→Qs
open Array renaming getElem?_eq_some_iff→QG,getD_eq_getD_getElem?→Zh,size_append→Zx
open Bool renaming false_eq_true→QS,and_eq_true→Q3,false_and→Za,not_false→ZD,and_false→ZF,true_and→ZG,not_true→ZH,false_or→ZL,or_false→ZM
open Prod renaming ext→ZR
open Go.Proofs.Tryz
noncomputable section
namespace Go.Vd
open Go.RowKit
section
variable{S:Gz}{s:Nat->D}{m:GB}{fr:Id}{K:D->GF->Prop}
def aUF{x:GE}:Az S s m fr (.mv x) K=GQ (some (x.ev s)) (λd=>K d []) .mk:=by simp[Az,Aw,GQ]
def xX:D->D->D->(K:D->GF->Prop)->Tag K->Prop
 | .bool t,a,b,K,_=>N5 (t=true) (K a []) (K b []) .mk
 |_,_,_,_,_=>False
def eX{t:Bool}{a b:D}{g:Tag K}:xX (.bool t) a b K g=N5 (t=true) (K a []) (K b []) .mk:=rfl
def aMh{c a b:GE}:Az S s m fr (.pick c a b) K=xX (c.ev s) (a.ev s) (b.ev s) K .mk:=by
 simp only[Az,Aw];unfold xX;cases c.ev s<;>simp only[AS];rename_i t;cases t<;>simp[GQ,N5]
def aED{zs:List D}:Az S s m fr (.alloc zs) K=GQ (some fr) (λfr=>K (.ptr fr 0) [(fr,0,zs)]) .mk:=by simp[Az,Aw,GQ]
def aPV{x:GE}:Az S s m fr (.box x) K=GQ (some fr) (λfr=>GQ (some (x.ev s)) (λd=>As (d.data=true) (K (.ptr fr 0) [(fr,0,d.cells)]) .mk) .mk) .mk:=by
 simp only[Az,Aw];rw[Ej,A1,A1,A1]
def aEC{zs:List D}{z:List (Nat×Nat×GE)}:Az S s m fr (.build zs z) K=GQ (Cf zs (z.map λp=>(p.1,p.2.1,p.2.2.ev s))) (λcs=>K (.agg cs) []) .mk:=by
 simp_all [Az,Aw,Cy]
def vL{e sz:Nat}{z:List GE}:Az S s m fr (.bslice e sz z) K=GQ (some fr) (λfr=>GQ (some (z.map λp=>p.ev s)) (λds=>As ((ds.all λd=>d.data&&d.cells.length==sz&&d.un.calm)=true) (K (.slice false fr (ds.map D.un)) [(fr,0,[.tok (e+1)])]) .mk) .mk) .mk:=by
 simp only[Az,Aw];rw[Ej,A1,A1,A1,List.all_map,QJ];rfl
def Pt:Option Nat->D->(m:GB)->(K:D->GF->Prop)->Tag (m,K)->Prop
 |none,.ptr i o,m,K,_=>GQ (m i o) (λd=>K d []) .mk
 |some n,.ptr i o,m,K,_=>GQ (Ag m i o n) (λds=>K (.agg ds) []) .mk
 |none,.eptr ds,m,K,_=>GQ ds.head? (λd=>K d []) .mk
 |some n,.eptr ds,m,K,_=>As (n<=ds.length) (K (.agg (ds.take n)) []) .mk
 |_,_,_,_,_=>False
def qN{i:Id}{o:Nat}{g:Tag (m,K)}:Pt none (.ptr i o) m K g=GQ (m i o) (λd=>K d []) .mk:=rfl
def fR{i:Id}{o n:Nat}{g:Tag (m,K)}:Pt (some n) (.ptr i o) m K g=GQ (Ag m i o n) (λds=>K (.agg ds) []) .mk:=rfl
def Ps{ds:List D}{g:Tag (m,K)}:Pt none (.eptr ds) m K g=GQ ds.head? (λd=>K d []) .mk:=rfl
def NM{ds:List D}{n:Nat}{g:Tag (m,K)}:Pt (some n) (.eptr ds) m K g=As (n<=ds.length) (K (.agg (ds.take n)) []) .mk:=rfl
def aMm{k:Option Nat}{x:GE}:Az S s m fr (.load k x) K=Pt k (x.ev s) m K .mk:=by
 simp only[Az,Aw];unfold Pt;cases x.ev s<;>cases k<;>simp only[AS,Cy,Fp]
def eL(n:Nat):D->D->(m:GB)->(K:D->GF->Prop)->Tag (m,K)->Prop
 | .ptr i o,d,m,K,_=>As (d.data=true∧d.cells.length=n∧(Ag m i o n).isSome=true) (K .junk [(i,o,d.cells)]) .mk
 |_,_,_,_,_=>False
def eK{n:Nat}{i:Id}{o:Nat}{d:D}{g:Tag (m,K)}:eL n (.ptr i o) d m K g=As (d.data=true∧d.cells.length=n∧(Ag m i o n).isSome=true) (K .junk [(i,o,d.cells)]) .mk:=rfl
def aEv{n:Nat}{x v:GE}:Az S s m fr (.store n x v) K=eL n (x.ev s) (v.ev s) m K .mk:=by
 simp only[Az,Aw];unfold eL;cases x.ev s<;>simp only[AS,Fp]
def IP:D->(K:D->GF->Prop)->Tag K->Prop
 | .ptr i o,K,_=>K (.ptr i o) []
 | .eptr ds,K,_=>K (.eptr ds) []
 | .fn f cs,K,_=>K (.fn f cs) []
 |_,_,_=>False
def V1{i:Id}{o:Nat}{g:Tag K}:IP (.ptr i o) K g=K (.ptr i o) []:=rfl
def TV{ds:List D}{g:Tag K}:IP (.eptr ds) K g=K (.eptr ds) []:=rfl
def fG{f:FuncId}{cs:List D}{g:Tag K}:IP (.fn f cs) K g=K (.fn f cs) []:=rfl
def vK{x:GE}:Az S s m fr (.nilchk x) K=IP (x.ev s) K .mk:=by
 simp only[Az,Aw];unfold IP;cases x.ev s<;>simp[AS,A1]
def eV(fr:Id):D->(K:D->GF->Prop)->Tag K->Prop
 | .str b,K,_=>K (.itp fr) [(fr,1,[.it b 0])]
 |_,_,_=>False
def eU{b:List UInt8}{g:Tag K}:eV fr (.str b) K g=K (.itp fr) [(fr,1,[.it b 0])]:=rfl
def aEw{x:GE}:Az S s m fr (.range x) K=eV fr (x.ev s) K .mk:=by
 simp only[Az,Aw];unfold eV;cases x.ev s<;>simp[AS,A1]
def lM(i:Id):D->(K:D->GF->Prop)->Tag K->Prop
 | .it b z,K,_=>N5 (z<b.length) (K (.tup [.bool true,.int .i64 (z:Nat),.int .i32 (Utf8.decode ⟨b.toArray⟩ z).1]) [(i,1,[.it b (z+(Utf8.decode ⟨b.toArray⟩ z).2)])]) (K (.tup [.bool false]) []) .mk
 |_,_,_=>False
def yS{i:Id}{b:List UInt8}{z:Nat}{g:Tag K}:lM i (.it b z) K g=N5 (z<b.length) (K (.tup [.bool true,.int .i64 (z:Nat),.int .i32 (Utf8.decode ⟨b.toArray⟩ z).1]) [(i,1,[.it b (z+(Utf8.decode ⟨b.toArray⟩ z).2)])]) (K (.tup [.bool false]) []) .mk:=rfl
def yR:D->(m:GB)->(K:D->GF->Prop)->Tag (m,K)->Prop
 | .itp i,m,K,_=>GQ (m i 1) (λx=>lM i x K .mk) .mk
 |_,_,_,_=>False
def qH{i:Id}{g:Tag (m,K)}:yR (.itp i) m K g=GQ (m i 1) (λx=>lM i x K .mk) .mk:=rfl
def aMi{x:GE}:Az S s m fr (.next x) K=yR (x.ev s) m K .mk:=by
 simp only[Az,Aw];unfold yR;cases x.ev s<;>try (simp only[AS];done)
 rename_i i;simp only;cases m i 1 with
 |none=>simp only[AS]
 |some d=>
  simp only[A1];unfold lM;cases d<;>simp only[AS];rename_i b z;rw[aHU,A1,A1]
def aPW{op:BinOp}{x y:GE}:Az S s m fr (.bin op x y) K=GQ (AO op (x.ev s) (y.ev s)) (λd=>K d []) .mk:=XX
def aUE{op:UnOp}{x:GE}:Az S s m fr (.un op x) K=GQ (rM op (x.ev s)) (λd=>K d []) .mk:=XX
def aGF(ne:Bool):D->D->Option D
 | .bool a,.bool b=>some (.bool ((a==b)!=ne))
 |_,_=>none
def aOK{a b:Bool}:aGF false (.bool a) (.bool b)=some (.bool (decide (a=b))):=by cases a<;>cases b<;>rfl
def aOJ{a b:Bool}:aGF true (.bool a) (.bool b)=some (.bool (decide (a≠b))):=by cases a<;>cases b<;>rfl
def aPX{ne:Bool}{x y:GE}:Az S s m fr (.beq ne x y) K=GQ (aGF ne (x.ev s) (y.ev s)) (λd=>K d []) .mk:=by
 simp only[Az,Aw];unfold aGF;cases x.ev s<;>cases y.ev s<;>simp[AS,A1]
def aMN(ne:Bool)(a:List (Nat×Nat)):D->D->Option D
 | .agg xs,.agg ys=>(Be xs ys a).map λb=> .bool (b !=ne)
 |_,_=>none
def O5{ne:Bool}{a:List (Nat×Nat)}{xs ys:List D}:aMN ne a (.agg xs) (.agg ys)=(Be xs ys a).map λb=> .bool (b !=ne):=rfl
def aPP{ne:Bool}{a:List (Nat×Nat)}{x y:GE}:Az S s m fr (.seq ne a x y) K=GQ (aMN ne a (x.ev s) (y.ev s)) (λd=>K d []) .mk:=by
 simp only[Az,Aw];unfold aMN;cases x.ev s<;>cases y.ev s<;>simp[AS,Cy]
def aEx{ne:Bool}{k:Nat}{x y:GE}:Az S s m fr (.nileq ne k x y) K=GQ (L1 k (x.ev s) (y.ev s)) (λb=>K (.bool (b !=ne)) []) .mk:=XX
def aCb(k:IntKind):D->Option D
 | .int _ n=>some (.int k (k.wrap n))
 |_=>none
def sH{k p:IntKind}{n:Int}:aCb k (.int p n)=some (.int k (k.wrap n)):=rfl
def aMs{k:IntKind}{x:GE}:Az S s m fr (.conv k x) K=GQ (aCb k (x.ev s)) (λd=>K d []) .mk:=by
 simp only[Az,Aw];unfold aCb;cases x.ev s<;>simp[AS,A1]
def aMP:D->Option D
 | .str b=>some (.str b)
 |_=>none
def wP{b:List UInt8}:aMP (.str b)=some (.str b):=rfl
def aPQ{x:GE}:Az S s m fr (.s2s x) K=GQ (aMP (x.ev s)) (λd=>K d []) .mk:=by
 simp only[Az,Aw];unfold aMP;cases x.ev s<;>simp[AS,A1]
def aMQ:D->Option D
 | .str b=>some (.slice false [] (AF b))
 |_=>none
def wR{b:List UInt8}:aMQ (.str b)=some (.slice false [] (AF b)):=rfl
def aPR{x:GE}:Az S s m fr (.s2b x) K=GQ (aMQ (x.ev s)) (λd=>K d []) .mk:=by
 simp only[Az,Aw];unfold aMQ;cases x.ev s<;>simp[AS,A1]
def aGG:D->Option D
 | .slice _ _ xs=>(BB xs).map .str
 |_=>none
def jA{nl:Bool}{t:Id}{xs:List D}:aGG (.slice nl t xs)=(BB xs).map .str:=rfl
def aPY{x:GE}:Az S s m fr (.b2s x) K=GQ (aGG (x.ev s)) (λd=>K d []) .mk:=by
 simp only[Az,Aw];unfold aGG;cases x.ev s<;>simp[AS,Cy]
def EQ(off:Nat):D->Option D
 | .ptr i o=>some (.ptr i (o+off))
 | .eptr ds=>if off<=ds.length then some (.eptr (ds.drop off))else none
 |_=>none
def gU{off:Nat}{i:Id}{o:Nat}:EQ off (.ptr i o)=some (.ptr i (o+off)):=rfl
def WS{off:Nat}{ds:List D}:EQ off (.eptr ds)=if off<=ds.length then some (.eptr (ds.drop off))else none:=rfl
def aEB{off:Nat}{x:GE}:Az S s m fr (.faddr off x) K=GQ (EQ off (x.ev s)) (λd=>K d []) .mk:=by
 simp only[Az,Aw];unfold EQ;cases x.ev s<;>simp only[AS,Fp,A1]
def Uk(off:Nat):Option Nat->D->Option D
 |none,.agg cs=>cs[off]?
 |some n,.agg cs=>if off+n<=cs.length then some (.agg ((cs.drop off).take n))else none
 |_,_=>none
def WQ{off:Nat}{cs:List D}:Uk off none (.agg cs)=cs[off]?:=rfl
def gT{off n:Nat}{cs:List D}:Uk off (some n) (.agg cs)=if off+n<=cs.length then some (.agg ((cs.drop off).take n))else none:=rfl
def aEA{k:Option Nat}{off:Nat}{x:GE}:Az S s m fr (.field k off x) K=GQ (Uk off k (x.ev s)) (λd=>K d []) .mk:=by
 simp only[Az,Aw];unfold Uk;cases x.ev s<;>cases k<;>simp only[AS,Cy,Fp]
def Uh(sz:Nat):D->D->(K:D->GF->Prop)->Tag K->Prop
 | .slice _ _ xs,.int _ n,K,_=>As (0<=n) (GQ xs[n.toNat]? (λd=>As (d.cells.length=sz) (K (.eptr d.cells) []) .mk) .mk) .mk
 | .row i l,.int _ n,K,_=>As (0<=n∧n<(l:Int)) (K (.ptr i (if sz=1 then n.toNat else n.toNat*sz)) []) .mk
 |_,_,_,_=>False
def gJ{sz l:Nat}{i:Id}{k:IntKind}{n:Int}{g:Tag K}:Uh sz (.row i l) (.int k n) K g=As (0<=n∧n<(l:Int)) (K (.ptr i (if sz=1 then n.toNat else n.toNat*sz)) []) .mk:=rfl
def Ug{sz:Nat}{nl:Bool}{t:Id}{xs:List D}{k:IntKind}{n:Int}{g:Tag K}:Uh sz (.slice nl t xs) (.int k n) K g=As (0<=n) (GQ xs[n.toNat]? (λd=>As (d.cells.length=sz) (K (.eptr d.cells) []) .mk) .mk) .mk:=rfl
def aEy{sz:Nat}{x i:GE}:Az S s m fr (.iaddr sz x i) K=Uh sz (x.ev s) (i.ev s) K .mk:=by
 simp only[Az,Aw];unfold Uh;cases x.ev s<;>cases i.ev s<;>first|(simp only[AS];done)|(simp only[Fp,As];done)|skip
 rename_i nl t xs k n;rw[Ej];simp only[As];congr 1;cases xs[n.toNat]? with
 |none=>simp only[AS]
 |some d=>simp only[A1,Fp,As]
def aAE:D->D->(K:D->GF->Prop)->Tag K->Prop
 | .str b,.int _ n,K,_=>As (0<=n) (GQ b[n.toNat]? (λc=>K (.int .u8 (c.toNat:Int)) []) .mk) .mk
 |_,_,_,_=>False
def qS{b:List UInt8}{k:IntKind}{n:Int}{g:Tag K}:aAE (.str b) (.int k n) K g=As (0<=n) (GQ b[n.toNat]? (λc=>K (.int .u8 (c.toNat:Int)) []) .mk) .mk:=rfl
def aMn{x i:GE}:Az S s m fr (.idxs x i) K=aAE (x.ev s) (i.ev s) K .mk:=by
 simp only[Az,Aw];unfold aAE;cases x.ev s<;>cases i.ev s<;>try simp only[AS]
 rw[Ej,Cy]
def gL(len sz:Nat):D->D->(K:D->GF->Prop)->Tag K->Prop
 | .ptr j o,.int _ n,K,_=>As (0<=n∧n<(len:Int)) (K (.ptr j (o+n.toNat*sz)) []) .mk
 |_,_,_,_=>False
def gK{len sz o:Nat}{j:Id}{k:IntKind}{n:Int}{g:Tag K}:gL len sz (.ptr j o) (.int k n) K g=As (0<=n∧n<(len:Int)) (K (.ptr j (o+n.toNat*sz)) []) .mk:=rfl
def aEz{len sz:Nat}{x i:GE}:Az S s m fr (.iadda len sz x i) K=gL len sz (x.ev s) (i.ev s) K .mk:=by
 simp only[Az,Aw];unfold gL;cases x.ev s<;>cases i.ev s<;>try simp only[AS]
 rw[Fp,As]
def aAF(len sz:Nat):D->D->(K:D->GF->Prop)->Tag K->Prop
 | .agg cs,.int _ n,K,_=>As (0<=n∧n<(len:Int)∧n.toNat*sz+sz<=cs.length) (K (.agg ((cs.drop (n.toNat*sz)).take sz)) []) .mk
 |_,_,_,_=>False
def qT{len sz:Nat}{cs:List D}{k:IntKind}{n:Int}{g:Tag K}:aAF len sz (.agg cs) (.int k n) K g=As (0<=n∧n<(len:Int)∧n.toNat*sz+sz<=cs.length) (K (.agg ((cs.drop (n.toNat*sz)).take sz)) []) .mk:=rfl
def aMo{len sz:Nat}{x i:GE}:Az S s m fr (.idxm len sz x i) K=aAF len sz (x.ev s) (i.ev s) K .mk:=by
 simp only[Az,Aw];unfold aAF;cases x.ev s<;>cases i.ev s<;>try simp only[AS]
 rw[Fp,As]
def aAG(len:Nat):D->D->(K:D->GF->Prop)->Tag K->Prop
 | .agg cs,.int _ n,K,_=>As (0<=n∧n<(len:Int)) (GQ cs[n.toNat]? (λd=>K d []) .mk) .mk
 |_,_,_,_=>False
def qU{len:Nat}{cs:List D}{k:IntKind}{n:Int}{g:Tag K}:aAG len (.agg cs) (.int k n) K g=As (0<=n∧n<(len:Int)) (GQ cs[n.toNat]? (λd=>K d []) .mk) .mk:=rfl
def aMp{len:Nat}{x i:GE}:Az S s m fr (.idxa len x i) K=aAG len (x.ev s) (i.ev s) K .mk:=by
 simp only[Az,Aw];unfold aAG;cases x.ev s<;>cases i.ev s<;>try simp only[AS]
 rw[Ej,Cy]
def aFH(i:Bool):D->D->Option D
 | .int k a,.int _ b=>some (.int k (if i=true then max a b else min a b))
 |_,_=>none
def aNg{k p:IntKind}{a b:Int}:aFH true (.int k a) (.int p b)=some (.int k (max a b)):=rfl
def aNh{k p:IntKind}{a b:Int}:aFH false (.int k a) (.int p b)=some (.int k (min a b)):=rfl
def aPS{i:Bool}{x y:GE}:Az S s m fr (.mxm i x y) K=GQ (aFH i (x.ev s) (y.ev s)) (λd=>K d []) .mk:=by
 simp only[Az,Aw];unfold aFH;cases x.ev s<;>cases y.ev s<;>simp[AS,A1]
def CW(b r:Nat):Option D->Option Nat
 |none=>some b
 |some (.int _ n)=>if 0<=n∧n<=r then some n.toNat else none
 |some _=>none
def HA(s:Nat->D):Option GE->Option D
 |none=>none
 |some a=>some (a.ev s)
def fB:HA s none=none:=rfl
def fA{a:GE}:HA s (some a)=some (a.ev s):=rfl
def cA{a b:Nat}:CW a b none=some a:=rfl
def iW{a b:Nat}{k:IntKind}{n:Int}:CW a b (some (.int k n))=if 0<=n∧n<=b then some n.toNat else none:=rfl
def bZ{x:Option GE}{a b:Nat}:Fk s x a b=CW a b (HA s x):=by
 cases x with
 |none=>rfl
 |some x=>simp only[Fk,HA,CW];cases x.ev s<;>rfl
def aB9:D->Option D->Option D->(K:D->GF->Prop)->Tag K->Prop
 | .str b,lo,hi,K,_=>GQ (CW b.length b.length hi) (λh=>GQ (CW 0 h lo) (λl=>K (.str ((b.drop l).take (h-l))) []) .mk) .mk
 |_,_,_,_,_=>False
def sG{b:List UInt8}{lo hi:Option D}{g:Tag K}:aB9 (.str b) lo hi K g=GQ (CW b.length b.length hi) (λh=>GQ (CW 0 h lo) (λl=>K (.str ((b.drop l).take (h-l))) []) .mk) .mk:=rfl
def aMq{x:GE}{lo hi:Option GE}:Az S s m fr (.cuts x lo hi) K=aB9 (x.ev s) (HA s lo) (HA s hi) K .mk:=by
 simp only[Az,Aw];unfold aB9;cases x.ev s<;>simp only[AS,bZ];rename_i b;cases CW b.length b.length (HA s hi)with
 |none=>simp only[AS]
 |some h=>
  simp only[A1];cases CW 0 h (HA s lo)with
  |none=>simp only[AS]
  |some l=>simp only[A1]
def aCa(sz:Nat):D->Option D->Option D->(K:D->GF->Prop)->Tag K->Prop
 | .slice nl _ xs,lo,hi,K,_=>As (aF xs sz=sz) (GQ (CW xs.length xs.length hi) (λh=>GQ (CW 0 h lo) (λl=>K (.slice nl [] ((xs.drop l).take (h-l))) []) .mk) .mk) .mk
 |_,_,_,_,_=>False
def W9{sz:Nat}{nl:Bool}{t:Id}{xs:List D}{lo hi:Option D}{g:Tag K}:aCa sz (.slice nl t xs) lo hi K g=As (aF xs sz=sz) (GQ (CW xs.length xs.length hi) (λh=>GQ (CW 0 h lo) (λl=>K (.slice nl [] ((xs.drop l).take (h-l))) []) .mk) .mk) .mk:=rfl
def aMr{sz:Nat}{x:GE}{lo hi:Option GE}:Az S s m fr (.cutl sz x lo hi) K=aCa sz (x.ev s) (HA s lo) (HA s hi) K .mk:=by
 simp only[Az,Aw];unfold aCa;cases x.ev s<;>simp only[AS,bZ];rename_i nl t xs;rw[Ej];cases CW xs.length xs.length (HA s hi)with
 |none=>simp[GQ,As]
 |some h=>
  simp only;cases h1:CW 0 h (HA s lo)with
  |none=>simp[GQ,As,h1]
  |some l=>simp[GQ,As,h1]
def aMk{t:TypeId}{x:GE}:Az S s m fr (.mkif t x) K=As ((x.ev s).data=true∧(x.ev s).un.calm=true) (K (.iface t (x.ev s).un) []) .mk:=by
 simp only[Az,Aw];rw[Ej,A1]
def aOl(i:Nat):D->Option D
 | .tup vs=>vs[i]?
 |_=>none
def aAZ{i:Nat}{vs:List D}:aOl i (.tup vs)=vs[i]?:=rfl
def aPU{i:Nat}{x:GE}:Az S s m fr (.ext i x) K=GQ (aOl i (x.ev s)) (λd=>K d []) .mk:=by
 simp only[Az,Aw];unfold aOl;cases x.ev s<;>simp[AS,Cy]
def aMl{f:FuncId}{caps:List GE}:Az S s m fr (.mkfn f caps) K=K (.fn f (caps.map (·.ev s))) []:=by simp[Az,Aw,GQ]
def aPT{b:Bool}{x:GE}:Az S s m fr (.len b x) K=GQ (fT b (x.ev s)) (λn=>K (.int .i64 (n:Int)) []) .mk:=XX
def zR{b:List UInt8}:fT true (.str b)=some b.length:=rfl
def fS{nl:Bool}{t:Id}{xs:List D}:fT false (.slice nl t xs)=some xs.length:=rfl
def zS{i:Id}{n:Nat}:fT false (.row i n)=some n:=rfl
def I1(m:GB)(e:Nat):D->Prop
 | .slice nl t _=>nl=true∨(m t 0=some (.tok (e+1))∧t≠[])
 |_=>False
def Bc(e:Nat)(fr:Id):D->GF
 | .slice true _ _=>[(fr,0,[.tok (e+1)])]
 | .slice false t _=>[(t,0,[.tok 0]),(fr,0,[.tok (e+1)])]
 |_=>[]
def aOM(e sz bytes:Nat)(fr:Id):D->Option (List D)->(m:GB)->(K:D->GF->Prop)->Tag (m,K)->Prop
 | .slice nl t xs,some ys,m,K,_=>N5 (nl=true∧ys=[]) (K (.slice true [] []) [])
   (As ((xs.length+ys.length)*(bytes+1)<=140737488355328∧aF ys sz=sz∧I1 m e (.slice nl t xs)) (K (.slice false fr (if nl=true then ys else xs++ys)) (Bc e fr (.slice nl t xs))) .mk) .mk
 |_,_,_,_,_=>False
def UL{sz:Nat}{nl:Bool}{t:Id}{ys:List D}:Iu sz (.slice nl t ys)=some ys:=rfl
def jB{sz:Nat}{b:List UInt8}:Iu sz (.str b)=if sz=1 then some (AF b)else none:=rfl
def jC{e sz bytes:Nat}{nl:Bool}{t:Id}{xs ys:List D}{g:Tag (m,K)}:aOM e sz bytes fr (.slice nl t xs) (some ys) m K g=N5 (nl=true∧ys=[]) (K (.slice true [] []) [])
   (As ((xs.length+ys.length)*(bytes+1)<=140737488355328∧aF ys sz=sz∧I1 m e (.slice nl t xs)) (K (.slice false fr (if nl=true then ys else xs++ys)) (Bc e fr (.slice nl t xs))) .mk) .mk:=rfl
def B0{nl:Bool}{xs ys:List D}(h:nl=true->xs=[]):(if nl=true then ys else xs++ys)=xs++ys:=by
 simp_all
def aPZ{e sz bytes:Nat}{x y:GE}:Az S s m fr (.app e sz bytes x y) K=aOM e sz bytes fr (x.ev s) (Iu sz (y.ev s)) m K .mk:=by
 simp only[Az,Aw];unfold aOM;cases x.ev s<;>cases Iu sz (y.ev s)<;>simp only[AS];rename_i nl t xs ys;by_cases u:nl=true∧ys=[]
 ·grind [A1,N5]
 ·rw[if_neg u];have j:∀A B:Prop,N5 (nl=true∧ys=[]) A B .mk=B:=λA B=>by simp[N5,u]
  rw[j,Ej];cases nl with
  |true=>simp[GQ,As,Bc,I1,and_assoc]
  |false=>
   simp only[QS,I1,Bc,false_or];cases hm:m t 0 with
   |none=>simp[GQ,As]
   |some d=>
    cases d with
    |tok k=>
     by_cases w:k=e+1∧t≠[]
     ·grind [GQ,As]
     ·grind [GQ,As]
    |_=>simp[GQ,As]
def yW(e sz bytes:Nat)(z:D)(fr:Id):D->D->(K:D->GF->Prop)->Tag K->Prop
 | .int _ n,.int _ c,K,_=>As (0<=n∧n<=c∧c*(bytes+1)<=140737488355328∧z.cells.length=sz) (if z.isRw=true then As (n=c) (K (.row fr n.toNat) [(fr,0,Q7 n.toNat z)]) .mk else K (.slice false fr (Q7 n.toNat z)) [(fr,0,[.tok (e+1)])]) .mk
 |_,_,_,_=>False
def qJ{e sz bytes:Nat}{z:D}{k p:IntKind}{n c:Int}{g:Tag K}:yW e sz bytes z fr (.int k n) (.int p c) K g=As (0<=n∧n<=c∧c*(bytes+1)<=140737488355328∧z.cells.length=sz) (if z.isRw=true then As (n=c) (K (.row fr n.toNat) [(fr,0,Q7 n.toNat z)]) .mk else K (.slice false fr (Q7 n.toNat z)) [(fr,0,[.tok (e+1)])]) .mk:=rfl
def aGa:D.isRw .nilIface=true:=rfl
def aAw{k:IntKind}{n:Int}:D.isRw (.int k n)=false:=rfl
def aAv:D.isRw (.str [])=true:=rfl
def qP{b:Bool}:D.isRw (.bool b)=false:=rfl
def gE{nl:Bool}{t:Id}{xs:List D}:D.isRw (.slice nl t xs)=false:=rfl
def aAx{xs:List D}:D.isRw (.agg xs)=false:=rfl
def aMj{e sz bytes:Nat}{z:D}{n c:GE}:Az S s m fr (.mksl e sz bytes z n c) K=yW e sz bytes z fr (n.ev s) (c.ev s) K .mk:=by
 simp only[Az,Aw];unfold yW;cases n.ev s<;>cases c.ev s<;>first|(simp only[AS];done)|skip
 by_cases i:z.isRw=true
 ·simp_all [Ej,A1,As]
 ·simp_all [Ej,A1,As]
def PY(S:Gz):D->List D->(m:GB)->Id->(K:D->GF->Prop)->Tag (m,K)->Prop
 | .fn f caps,ds,m,fr,K,_=>GQ (S f) (λq=>GQ (q.ex (ds++caps) m fr) (λx=>K x.1 x.2) .mk) .mk
 |_,_,_,_,_,_=>False
def aMt{f:GE}{xs:List GE}:Az S s m fr (.call f xs) K=PY S (f.ev s) (xs.map (·.ev s)) m fr K .mk:=by
 simp only[Az,Aw];unfold PY;cases f.ev s<;>simp only[AS];rename_i f caps;cases S f with
 |none=>simp only[AS]
 |some q=>simp only[A1]
def AE{f:FuncId}{caps ds:List D}{q:G8}{g:Tag (m,K)}(h:S f=some q):PY S (.fn f caps) ds m fr K g=GQ (q.ex (ds++caps) m fr) (λx=>K x.1 x.2) .mk:=by
 grind [PY,A1]
def Ab{f:FuncId}{caps ds:List D}{F:List D->Option D}{g:Tag (m,K)}(h:S f=some (Ac F)):PY S (.fn f caps) ds m fr K g=As (((ds++caps).map D.un).all D.calm=true) (GQ (F ((ds++caps).map D.un)) (λr=>K r []) .mk) .mk:=by
 rw[AE h];simp only[Ac,Ej,As];rw[Cy]
def AD(S:Gz)(f:FuncId){q:G8}(h:S f=some q:=by exact rfl){caps ds:List D}{g:Tag (m,K)}:PY S (.fn f caps) ds m fr K g=GQ (q.ex (ds++caps) m fr) (λx=>K x.1 x.2) .mk:=AE h
def Ae(S:Gz)(f:FuncId){F:List D->Option D}(h:S f=some (Ac F):=by exact rfl){caps ds:List D}{g:Tag (m,K)}:PY S (.fn f caps) ds m fr K g=As (((ds++caps).map D.un).all D.calm=true) (GQ (F ((ds++caps).map D.un)) (λr=>K r []) .mk) .mk:=Ab h
end
def Af{S:Gz}{ns:Id}{c b:DC}{Q:Ex->St->Prop}{v:St}{t:Tag (S,ns,c,Q,v)}(h:c=b)(k:b.wp S ns (Wf S ns c Q) v):A9 S ns c Q v t:=vN (h▸k)
section
variable{k:IntKind}{a b:Int}
def aQm:AO .add (.int k a) (.int k b)=some (.int k (k.wrap (a+b))):=Xo
def aP6:AO .sub (.int k a) (.int k b)=some (.int k (k.wrap (a-b))):=Xo
def aQe:AO .mul (.int k a) (.int k b)=some (.int k (k.wrap (a*b))):=Xo
def aQa:AO .quo (.int k a) (.int k b)=if b≠0 then some (.int k (k.wrap (a.tdiv b)))else none:=by by_cases h:b=0<;>simp[AO,h]
def aP9:AO .rem (.int k a) (.int k b)=if b≠0 then some (.int k (a.tmod b))else none:=by by_cases h:b=0<;>simp[AO,h]
def aQl:AO .and (.int k a) (.int k b)=some (.int k (bits .and k a b)):=Xo
def aUK:AO .or (.int k a) (.int k b)=some (.int k (bits .or k a b)):=Xo
def aP5:AO .xor (.int k a) (.int k b)=some (.int k (bits .xor k a b)):=Xo
def aQj:AO .eql (.int k a) (.int k b)=some (.bool (decide (a=b))):=by simp[AO];rfl
def aQc:AO .neq (.int k a) (.int k b)=some (.bool (decide (¬a=b))):=by simp[AO];rfl
def aQf:AO .lss (.int k a) (.int k b)=some (.bool (decide (a<b))):=Xo
def aQg:AO .leq (.int k a) (.int k b)=some (.bool (decide (a<=b))):=Xo
def aQh:AO .gtr (.int k a) (.int k b)=some (.bool (decide (b<a))):=Xo
def aQi:AO .geq (.int k a) (.int k b)=some (.bool (decide (b<=a))):=Xo
def aP8{p:IntKind}:AO .shl (.int k a) (.int p b)=if 0<=b then some (.int k (k.wrap (a*2 ^ min b.toNat k.bits)))else none:=Xo
def aP7{p:IntKind}:AO .shr (.int k a) (.int p b)=if 0<=b then some (.int k (a.fdiv (2 ^ min b.toNat k.bits)))else none:=Xo
variable{x y:List UInt8}
def aQk:AO .add (.str x) (.str y)=if x.length+y.length<=9223372036854775807 then some (.str (x++y))else none:=Xo
def aMB:AO .eql (.str x) (.str y)=some (.bool (decide (x=y))):=by
 grind [AO]
def aMA:AO .neq (.str x) (.str y)=some (.bool (decide (¬x=y))):=by
 grind [AO]
def aQb{p:Bool}:rM .not (.bool p)=some (.bool (!p)):=rfl
def aQd:rM .neg (.int k a)=some (.int k (k.wrap (0-a))):=rfl
end
def aFE{p:Prop}[Decidable p]:(!decide p)=decide (¬p):=by by_cases h:p<;>simp[h]
def aBd{p:Prop}[Decidable p]:(decide p=true)=p:=U
def sB{p:Prop}[Decidable p]:(decide p=false)=¬p:=U
def aVz:(false=true)=False:=U
def aUM:(true=false)=False:=U
def aGc{p A B:Prop}{t:Tag (A,B)}:N5 (¬p) A B t=N5 p B A .mk:=by
 grind [N5]
def pR{o:DOper}{l:List DOper}:Du (o::l) 0=o.dst:=rfl
def pS{o:DOper}{l:List DOper}{j:Nat}:Du (o::l) (j+1)=Du l j:=by simp[Du]
def aGI{m:GB}:GF.app m []=m:=rfl
def aCv{m:GB}{i:Id}{o:Nat}{ds:List D}{u:GF}:GF.app m ((i,o,ds)::u)=GF.app (m.put i o ds) u:=rfl
def Vn:BB []=some []:=rfl
def Td{n:Int}{r:List D}:BB (.int .u8 n::r)=(BB r).map (UInt8.ofNat n.toNat::·):=rfl
def TN{α β:Type}{f:α->β}{x:α}:(some x).map f=some (f x):=rfl
def WU{rs:List RV}{R:D->GB->Prop}{v:St}:DW rs R .normal v=GQ (CR rs v.s v.m) (λd=>R d v.m) .mk:=by
 simp[DW,GQ]
def aA2{rs:List RV}{R:D->GB->Prop}{v:St}:DW rs R .ret v=GQ (CR rs v.s v.m) (λd=>R d v.m) .mk:=by
 simp[DW,GQ]
def rO{rs:List RV}{R:D->GB->Prop}{v:St}{i:Nat}:DW rs R (.exit i) v=False:=by
 simp[DW]
def aFl{s:Nat->D}{m:GB}{t:Nat}:CR [.t t] s m=some (s t):=rfl
def aFk{s:Nat->D}{m:GB}{t z:Nat}:CR [.t t,.t z] s m=some (.tup [s t,s z]):=rfl
def qC{s:Nat->D}{m:GB}{t z a:Nat}:CR [.t t,.t z,.t a] s m=some (.tup [s t,s z,s a]):=rfl
def xJ{s:Nat->D}{m:GB}:CR [] s m=some (.tup []):=rfl
def gW{d:D}{ds:List D}:BE (d::ds) 0=d:=rfl
def gX{d:D}{ds:List D}{t:Nat}:BE (d::ds) (t+1)=BE ds t:=rfl
def rN{t:Nat}:BE [] t= .junk:=rfl
def VG(S:Gz)(ns:Id)(c:Nat)(ops l:List DOper)(k:Nat)(s:Nat->D)(f:Option Nat)(m:GB)(K:Nat->(Nat->D)->GB->Prop)(d:D)(u:GF):Prop:=FJ S ns c ops l k (Cp s f d) (GF.app m u) K
def Ng(S:Gz)(ns:Id)(c:Nat)(ops l:List DOper)(k:Nat)(s:Nat->D)(t:Option Nat)(m:GB)(op:DOp)(K:Nat->(Nat->D)->GB->List LD->Prop)(d:D)(u:GF):Prop:=
 Ca S ns c ops l k (Cp s t d) (GF.app m u) λp r m' f=>K p r m' ((GS S s m op,AB u)::f)
section
variable{S:Gz}{ns:Id}{c k:Nat}{ops l:List DOper}{s:Nat->D}{m:GB}{dst:Option Nat}{op:DOp}{af:List Nat}{j:Nat}{b:Bool}{d:D}{i:Id}{o e:Nat}{fr:Id}{ds:List D}{u:GF}
section
variable{K:Nat->(Nat->D)->GB->Prop}
def aFf:FJ S ns c ops [] k s m K=K k s m:=rfl
def aFe:FJ S ns c ops (⟨dst,op,af,none⟩::l) k s m K=Az S s m ((c+k)::ns) op (VG S ns c ops l (k+1) s dst m K):=rfl
def aMT:FJ S ns c ops (⟨dst,op,af,some (j,b)⟩::l) k s m K=Lq (Gk s (Du ops j)) b
   (Az S s m ((c+k)::ns) op (VG S ns c ops l (k+1) s dst m K)) (FJ S ns c ops l (k+1) (Cp s dst (.tup [])) m K) .mk:=rfl
def xB:VG S ns c ops l k s dst m K d []=FJ S ns c ops l k (Cp s dst d) m K:=rfl
def pZ:VG S ns c ops l k s dst m K d ((i,o,ds)::u)=VG S ns c ops l k s dst (m.put i o ds) K d u:=rfl
def MS{n:D}:VG S ns c ops l k s dst m K d (Bc e fr n)=FJ S ns c ops l k (Cp s dst d) (GF.app m (Bc e fr n)) K:=rfl
end
variable{K:Nat->(Nat->D)->GB->List LD->Prop}
def rR:Ca S ns c ops [] k s m K=K k s m []:=rfl
def rQ:Ca S ns c ops (⟨dst,op,af,none⟩::l) k s m K=Az S s m ((c+k)::ns) op (Ng S ns c ops l (k+1) s dst m op K):=rfl
def aA5:Ca S ns c ops (⟨dst,op,af,some (j,b)⟩::l) k s m K=Lq (Gk s (Du ops j)) b
   (Az S s m ((c+k)::ns) op (Ng S ns c ops l (k+1) s dst m op K))
   (Ca S ns c ops l (k+1) (Cp s dst (.tup [])) m λp r m' f=>K p r m' ((GS S s m op,[])::f)) .mk:=rfl
def gZ:Ng S ns c ops l k s dst m op K d []=Ca S ns c ops l k (Cp s dst d) m λp r m' f=>K p r m' ((GS S s m op,[])::f):=rfl
def WX:Ng S ns c ops l k s dst m op K d ((i,o,ds)::u)=Ca S ns c ops l k (Cp s dst d) (GF.app (m.put i o ds) u) λp r m' f=>K p r m' ((GS S s m op,AB ((i,o,ds)::u))::f):=rfl
def WW{n:D}:Ng S ns c ops l k s dst m op K d (Bc e fr n)=Ca S ns c ops l k (Cp s dst d) (GF.app m (Bc e fr n)) λp r m' f=>K p r m' ((GS S s m op,AB (Bc e fr n))::f):=rfl
end
def aB7{k:IntKind}{n:Int}:D.data (.int k n)=true:=rfl
def aB5{b:List UInt8}:D.data (.str b)=true:=rfl
def sE{b:Bool}:D.data (.bool b)=true:=rfl
def iM{nl:Bool}{t:Id}{xs:List D}:D.data (.slice nl t xs)=true:=rfl
def aB8{xs:List D}:D.data (.agg xs)=true:=rfl
def aB6{i:Id}{o:Nat}:D.data (.ptr i o)=true:=rfl
def W8:D.data .nilptr=true:=rfl
def sO{k:IntKind}{n:Int}:D.cells (.int k n)=[.int k n]:=rfl
def sM{b:List UInt8}:D.cells (.str b)=[.str b]:=rfl
def iP{b:Bool}:D.cells (.bool b)=[.bool b]:=rfl
def Fh{nl:Bool}{t:Id}{xs:List D}:D.cells (.slice nl t xs)=[.slice nl t xs]:=rfl
def sP{xs:List D}:D.cells (.agg xs)=xs:=rfl
def sN{i:Id}{o:Nat}:D.cells (.ptr i o)=[.ptr i o]:=rfl
def aMF{k:IntKind}{n:Int}:D.un (.int k n)= .int k n:=rfl
def aME{b:List UInt8}:D.un (.str b)= .str b:=rfl
def aEQ{b:Bool}:D.un (.bool b)= .bool b:=rfl
def vY{nl:Bool}{t:Id}{xs:List D}:D.un (.slice nl t xs)= .slice nl [] xs:=rfl
def aMG{xs:List D}:D.un (.agg xs)= .agg (xs.map D.un1):=rfl
def aQn{f:FuncId}{cs:List D}:D.un (.fn f cs)= .fn f cs:=rfl
def aEW{k:IntKind}{n:Int}:D.un1 (.int k n)= .int k n:=rfl
def aEV{b:List UInt8}:D.un1 (.str b)= .str b:=rfl
def wA{b:Bool}:D.un1 (.bool b)= .bool b:=rfl
def pE{nl:Bool}{t:Id}{xs:List D}:D.un1 (.slice nl t xs)= .slice nl [] xs:=rfl
def aET{k:IntKind}{n:Int}:D.unR (.int k n)= .int k n:=rfl
def aES{b:List UInt8}:D.unR (.str b)= .str b:=rfl
def vZ{b:Bool}:D.unR (.bool b)= .bool b:=rfl
def pD{nl:Bool}{t:Id}{xs:List D}:D.unR (.slice nl t xs)= .slice nl [] xs:=rfl
def aEU{xs:List D}:D.unR (.agg xs)= .agg (xs.map D.un1):=rfl
def aER{xs:List D}:D.unR (.tup xs)= .tup (xs.map D.un):=rfl
def aCl{k:IntKind}{n:Int}:D.calm (.int k n)=true:=rfl
def aCj{b:List UInt8}:D.calm (.str b)=true:=rfl
def sR{b:Bool}:D.calm (.bool b)=true:=rfl
def iQ{nl:Bool}{xs:List D}:D.calm (.slice nl [] xs)=true:=rfl
def sS{xs:List D}:D.calm (.agg xs)=xs.all D.calm1:=rfl
def aGD{f:FuncId}:D.calm (.fn f [])=true:=rfl
def sY{k:IntKind}{n:Int}:D.calm1 (.int k n)=true:=rfl
def sX{b:List UInt8}:D.calm1 (.str b)=true:=rfl
def iT{b:Bool}:D.calm1 (.bool b)=true:=rfl
def bX{nl:Bool}{xs:List D}:D.calm1 (.slice nl [] xs)=true:=rfl
def sV{k:IntKind}{n:Int}:D.calmR (.int k n)=true:=rfl
def sU{b:List UInt8}:D.calmR (.str b)=true:=rfl
def iS{b:Bool}:D.calmR (.bool b)=true:=rfl
def bW{nl:Bool}{xs:List D}:D.calmR (.slice nl [] xs)=true:=rfl
def sW{xs:List D}:D.calmR (.agg xs)=xs.all D.calm1:=rfl
def sT{xs:List D}:D.calmR (.tup xs)=xs.all D.calm:=rfl
def aNt{f:D->D}{x:D}{xs:List D}:(x::xs).map f=f x::xs.map f:=rfl
def aF6{f:D->D}:ZP f []=[]:=rfl
def aNs{f:GE->D}{x:GE}{xs:List GE}:(x::xs).map f=f x::xs.map f:=rfl
def aF5{f:GE->D}:ZP f []=[]:=rfl
def aNr{f:Nat×Nat×GE->Nat×Nat×D}{x:Nat×Nat×GE}{xs:List (Nat×Nat×GE)}:(x::xs).map f=f x::xs.map f:=rfl
def aF4{f:Nat×Nat×GE->Nat×Nat×D}:ZP f []=[]:=rfl
def aSb{f:D->Bool}{x:D}{xs:List D}:(x::xs).all f=(f x&&xs.all f):=rfl
def aNA{f:D->Bool}:List.all [] f=true:=rfl
def aR9{x:D}{xs:List D}:(x::xs).length=xs.length+1:=rfl
def aNu:([]:List D).length=0:=rfl
def aSa{x:D}{xs ys:List D}:(x::xs)++ys=x::(xs++ys):=rfl
def aNz{ys:List D}:[]++ys=ys:=rfl
def aNy{ys:List D}:ys++[]=ys:=U
def aNx{x:D}{xs:List D}:(x::xs)[0]?=some x:=rfl
def aNw{x:D}{xs:List D}{n:Nat}:(x::xs)[n+1]?=xs[n]?:=rfl
def aNv{x:D}{xs:List D}:(x::xs).head?=some x:=rfl
def aR5{n:Nat}:(n==n)=true:=U
def aM5:(True∧True)=True:=U
def aQF{p:Prop}:(True∧p)=p:=U
def aM6{p:Prop}:(p∧True)=p:=U
def aUX:(¬False)=True:=U
def aUW:(¬True)=False:=U
def aVG:(true=true)=True:=U
def aVH:(false=false)=True:=U
def aVD:decide True=true:=U
def aVE:decide False=false:=U
def C2:=Qa @VB <| Qa @wO <| Qa @pV <| Qa @RG <| Qa @iX <| Qa @Ec <| Qa @Ua <| Qa @qM <| Qa @fQ <| Qa @vM <| Qa @aEG <| Qa @vO <| Qa @aEE <| Qa @Vf <| Qa @dY <| Qa @oY <| Qa @Vc <| Qa @dX <| Qa @pT <| Qa @pU <| Qa @bL <| Qa @bM <| Qa @aUF <| Qa @aMh <| Qa @aED <| Qa @aPV <| Qa @aEC <| Qa @vL <| Qa @aMm <| Qa @aEw <| Qa @aMi <| Qa @aEv <| Qa @vK <| Qa @aPW <| Qa @aUE <| Qa @aPX <| Qa @aPP <| Qa @aEx <| Qa @aMs <| Qa @aPQ <| Qa @aPR <| Qa @aPY <| Qa @aEB <| Qa @aEA <| Qa @aEy <| Qa @aMn <| Qa @aMp <| Qa @aMo <| Qa @aPS <| Qa @aEz <| Qa @aMq <| Qa @aMr <| Qa @aMk <| Qa @aPU <| Qa @aMl <| Qa @aPT <| Qa @aPZ <| Qa @aMj <| Qa @aMt <| Qa @WU <| Qa @aA2 <| Qa @rO <| Qa @aFl <| Qa @aFk <| Qa @qC <| Qa @xJ <| Qa @aFf <| Qa @aFe <| Qa @aMT <| Qa @xB <| Qa @pZ <| Qa @MS <| Qa @gZ <| Qa @WX <| Qa @WW <| Qa @rR <| Qa @rQ <| Qa @aA5 <| Qa @pR @pS
def GD:=Qa @S5 <| Qa @aAD <| Qa @qR <| Qa @A1 <| Qa @AS <| Qa @Ej <| Qa @Cy <| Qa @Il <| Qa @gO <| Qa @CG <| Qa @Lz <| Qa @eX <| Qa @qN <| Qa @eU <| Qa @qH <| Qa @yS <| Qa @fR <| Qa @Ps <| Qa @NM <| Qa @eK <| Qa @V1 <| Qa @TV <| Qa @fG <| Qa @aOK <| Qa @aOJ <| Qa @O5 <| Qa @sH <| Qa @wP <| Qa @wR <| Qa @jA <| Qa @gU <| Qa @WS <| Qa @WQ <| Qa @gT <| Qa @Ug <| Qa @qS <| Qa @qU <| Qa @qT <| Qa @aNg <| Qa @aNh <| Qa @gK <| Qa @sG <| Qa @W9 <| Qa @fB <| Qa @fA <| Qa @cA <| Qa @iW <| Qa @aAZ <| Qa @zR <| Qa @fS <| Qa @zS <| Qa @jC <| Qa @UL <| Qa @jB <| Qa @qJ <| Qa @aGa <| Qa @aAw <| Qa @aAv <| Qa @qP <| Qa @gE <| Qa @aAx <| Qa @gJ <| Qa @aQm <| Qa @aP6 <| Qa @aQe <| Qa @aQa <| Qa @aP9 <| Qa @aQl <| Qa @aUK <| Qa @aP5 <| Qa @aQj <| Qa @aQc <| Qa @aQf <| Qa @aQg <| Qa @aQh <| Qa @aQi <| Qa @aP8 <| Qa @aP7 <| Qa @aQk <| Qa @aMB <| Qa @aMA <| Qa @aQb <| Qa @aQd <| Qa @aFE <| Qa @aBd <| Qa @sB <| Qa @aVz <| Qa @aUM <| Qa @aGc <| Qa @aGI <| Qa @aCv <| Qa @Vn <| Qa @Td <| Qa @TN <| Qa @gW <| Qa @gX @rN
def Hp:=Qa @aB7 <| Qa @aB5 <| Qa @sE <| Qa @iM <| Qa @aB8 <| Qa @aB6 <| Qa @W8 <| Qa @sO <| Qa @sM <| Qa @iP <| Qa @Fh <| Qa @sP <| Qa @sN <| Qa @aMF <| Qa @aME <| Qa @aEQ <| Qa @vY <| Qa @aMG <| Qa @aQn <| Qa @aEW <| Qa @aEV <| Qa @wA <| Qa @pE <| Qa @aET <| Qa @aES <| Qa @vZ <| Qa @pD <| Qa @aEU <| Qa @aER <| Qa @aCl <| Qa @aCj <| Qa @sR <| Qa @iQ <| Qa @sS <| Qa @aGD <| Qa @sY <| Qa @sX <| Qa @iT <| Qa @bX <| Qa @sV <| Qa @sU <| Qa @iS <| Qa @bW <| Qa @sW @sT
def GN:=Qa @aNt <| Qa @aF6 <| Qa @aNs <| Qa @aF5 <| Qa @aNr <| Qa @aF4 <| Qa @aSb <| Qa @aNA <| Qa @aR9 <| Qa @aNu <| Qa @aSa <| Qa @aNz <| Qa @aNy <| Qa @aNx <| Qa @aNw <| Qa @aNv <| Qa @aR5 <| Qa @aM5 <| Qa @aQF <| Qa @aM6 <| Qa @aUX <| Qa @aUW <| Qa @aVG <| Qa @aVH <| Qa @aVD <| Qa @aVE <| Qa @ZG <| Qa @Bool.and_true <| Qa @ZH @ZD
def GC:(type_of% @Qi.{0,0})∧(type_of% @QO.{0,0})∧(type_of% @GD)∧(type_of% @Hp)∧(type_of% @GN):=
 ⟨@Qi,@QO,@GD,@Hp,@GN⟩
def GO:(type_of% @QM.{0})∧(type_of% @Qg.{0})∧(type_of% @Qh.{0})∧(type_of% @Qk.{0})∧(type_of% @Qw)∧(type_of% @Qm)∧(type_of% @Qx)∧(type_of% @and_self)∧(type_of% @GD)∧(type_of% @Hp)∧(type_of% @GN):=
 ⟨@QM,@Qg,@Qh,@Qk,@Qw,@Qm,@Qx,@and_self,@GD,@Hp,@GN⟩
def GA:(type_of% @GD)∧(type_of% @Hp)∧(type_of% @GN):=
 ⟨@GD,@Hp,@GN⟩
def Aj {P:Program} {f:FuncId} {N:Nat} {x:DC} {rs:List RV} {k:Func} {r:Code} (u:P.funcs[f]?=some k) (y:k.body=some r:=by rfl) (p:(k.name== "runtime.NumGoroutine")=false:=by kernel_rfl) (n:k.ntmps=N:=by rfl) (c:Ch P N r=some x:=by kernel_rfl) (g:I6 P k.results.toList=some rs:=by kernel_rfl):Fn P f N x rs:=⟨k,r,u,y,p,n,c,g⟩
def startG(G:Nat->Nat):Gh:={G:=G,G0:=G,dl:=λ_=>none,tb:=λ_=>none}
def MP(P:Program)(w:World){G:Nat->Nat}(q:∀b,w.heap.size<=b->G b=0):GJ P w.heap.size w (λ_ _=>none) w (startG G):=
 ⟨Below.refl _ _,QA _,q,λ_ _=>rfl,λi b h=>by simp[startG]at h,λi z b h=>by simp[startG]at h,λi o d h=>Xe,λi e h=>Xe,λi z e m b x k h=>Xe,λi s p h=>Xe,λi z s p r u b x k h=>Xe⟩
def aMS{P:Program}{f:FuncId}{F:List D->Option D}(h:(Ac F).ok P f){w:World}{G:Nat->Nat}(q:∀b,w.heap.size<=b->G b=0){ds:List D}{vs:List Value}{d:D}(hl:vs.length=ds.length)
  (n:∀(j:Nat) d v,ds[j]?=some d->vs[j]?=some v->Rep w (startG G) d v) (k:ds.map D.un=ds) (o:ds.all D.calm=true) (g:F ds=some d):
  Calls P f vs.toArray w λe c=>∃v a,e= .returned v∧Rep c a d v∧Below w.heap.size w c:=by
 have z:(Ac F).ex ds (λ_ _=>none) []=some (d,[]):=by
  grind [Ac]
 refine(h.run (MP P w q) (λi _=>⟨λ_=>rfl,rfl,rfl⟩) hl n z).mono ?_;rintro e c ⟨v,a,rfl,r⟩;exact⟨v,a,rfl,r.rep,r.inv.below⟩
def wZ{P:Program}{f:FuncId}{F:List D->Option D}(h:(Ac F).ok P f){w:World}{G:Nat->Nat}(q:∀b,w.heap.size<=b->G b=0){ds:List D}{vs:List Value}(hl:vs.length=ds.length)
  (n:∀(j:Nat) d v,ds[j]?=some d->vs[j]?=some v->Rep w (startG G) d v) (z:ds.map D.un=ds) (o:ds.all D.calm=true) (g:F ds=some (.bool true)):
  Calls P f vs.toArray w λe i=>e= .returned (.bool true)∧Below w.heap.size w i:=by
 refine(aMS h q hl n z o g).mono ?_;rintro e i ⟨v,a,rfl,c,m⟩;rw[c.bool_inv];exact⟨rfl,m⟩
def AR(f:List LD)(ps:List (Nat×Nat)):Bool:=ps.all λp=>(f.getD p.1 ([],[])).2.all λl=>!((f.getD p.2 ([],[])).1.contains l)&&!((f.getD p.2 ([],[])).2.contains l)
def Am{f:List LD}{ps:List (Nat×Nat)}(h:AR f ps=true):Lu f ps:=by
 intro p g l hl;have u:=Qt.1 h p g;have y:=Qt.1 u l hl;simpa using y
def AY{f:List LD}{ps:List (Nat×Nat)}{K:Prop}{t:Tag K}(k:K)(h:AR f ps=true:=by first|rfl|simp[AR,AB,GS,Ai,Ac]):As (Lu f ps) K t:=⟨Am h,k⟩
def DC.run(S:Gz)(ns:Id):Nat->DC->St->Option (Ex×St)
 |0,_,_=>none
 |_+1,.skip,st=>some (.normal,st)
 |_+1,.ret,st=>some (.ret,st)
 |_+1,.exit i,st=>some (.exit i,st)
 |_+1,.row ops,st=>match Eb S ns st.c ops ops 0 st.s st.m with
  |some (s,m)=>some (.normal,⟨s,m,st.c+ops.length⟩)
  |none=>none
 |_+1,.drawn ops ps,st=>match B9 S ns st.c ops ops 0 st.s st.m with
  |some (s,m,f)=>if AR f ps=true then some (.normal,⟨s,m,st.c+ops.length⟩)else none
  |none=>none
 |n+1,.seq a b,st=>match DC.run S ns n a st with
  |some (.normal,st1)=>DC.run S ns n b st1
  |r=>r
 |n+1,.cond c a b,st=>match c.ev st.s with
  | .bool true=>DC.run S ns n a st
  | .bool false=>DC.run S ns n b st
  |_=>none
 |n+1,.block i c,st=>match DC.run S ns n c st with
  |some (.exit j,st1)=>if j=i then some (.normal,st1)else some (.exit j,st1)
  |r=>r
 |n+1,.loop c,st=>match DC.run S ns n c st with
  |some (.normal,st1)=>DC.run S ns n (.loop c) st1
  |r=>r
def aMR{S:Gz}{ns:Id}:∀(n:Nat)(x:DC)(v:St)(e:Ex)(q:St),DC.run S ns n x v=some (e,q)->Ev S ns x v e q:=by
 intro n;induction n with
 |zero=>intro x v e q h;simp[DC.run]at h
 |succ n ih=>
  intro x v e q h;cases x with
  |skip=>simp only[DC.run,Qb,Qs]at h;exact⟨h.1.symm,h.2.symm⟩
  |ret=>simp only[DC.run,Qb,Qs]at h;exact⟨h.1.symm,h.2.symm⟩
  |exit i=>simp only[DC.run,Qb,Qs]at h;exact⟨h.1.symm,h.2.symm⟩
  |row ops=>
   simp only[DC.run]at h;split at h
   ·rename_i s m z;simp only[Qb,Qs]at h;obtain⟨rfl,rfl⟩:=h;exact⟨rfl,z,rfl⟩
   ·cases h
  |drawn ops ps=>
   simp only[DC.run]at h;split at h
   ·rename_i s m f z;split at h
    ·rename_i hf;simp only[Qb,Qs]at h;obtain⟨rfl,rfl⟩:=h;exact⟨rfl,⟨f,z,Am hf⟩,rfl⟩
    ·cases h
   ·cases h
  |seq a b=>
   simp only[DC.run]at h;split at h
   ·rename_i t u;exact⟨.normal,t,ih _ _ _ _ u,.inl ⟨rfl,ih _ _ _ _ h⟩⟩
   ·rename_i y;refine⟨e,q,ih _ _ _ _ h,.inr ⟨λz=>?_,rfl,rfl⟩⟩;subst z;exact y q h
  |cond c a b=>
   simp only[DC.run]at h;split at h
   ·rename_i o;exact .inl ⟨o,ih _ _ _ _ h⟩
   ·rename_i o;exact .inr ⟨o,ih _ _ _ _ h⟩
   ·cases h
  |block i c=>
   simp only[DC.run]at h;split at h
   ·rename_i j t u;split at h
    ·rename_i p;simp only[Qb,Qs]at h;obtain⟨rfl,rfl⟩:=h;exact⟨.exit j,ih _ _ _ _ u,.inl ⟨by rw[p],rfl⟩⟩
    ·rename_i p;simp only[Qb,Qs]at h;obtain⟨rfl,rfl⟩:=h;exact⟨.exit j,ih _ _ _ _ u,.inr ⟨by simp[p],rfl⟩⟩
   ·rename_i y;refine⟨e,ih _ _ _ _ h,.inr ⟨λz=>?_,rfl⟩⟩;subst z;exact y i q h
  |loop c=>
   simp only[DC.run]at h;split at h
   ·rename_i t u;obtain⟨k,w⟩:=ih _ _ _ _ h;exact⟨k+1,.more k _ _ _ _ (ih _ _ _ _ u) w⟩
   ·rename_i y;refine⟨0,.stop _ _ _ (ih _ _ _ _ h) (λz=>?_)⟩;subst z;exact y q h
def Nc(S:Gz)(N:Nat)(x:DC)(rs:List RV)(fuel:Nat)(ds:List D):Option D:=
 if ds.length<=N then match DC.run S [] fuel x ⟨BE ds,λ_ _=>none,0⟩with
  |some (.exit _,_)=>none
  |some (_,st)=>match CR rs st.s st.m with
   |some d=>if d.unR.calmR=true then some d.unR else none
   |none=>none
  |none=>none
 else none
def Nb{P:Program}{S:Gz}{f:FuncId}{N:Nat}{x:DC}{rs:List RV}(w:Gz.ok P S)(s:Fn P f N x rs)(fuel:Nat):(Ac (Nc S N x rs fuel)).ok P f:=by
 refine AL w s (λds r h=>?_) (λds r h=>?_)
 ·grind [Nc]
 ·unfold Nc at h;split at h
  ·split at h
   ·cases h
   ·rename_i u v c n;split at h
    ·rename_i d p;split at h
     ·rename_i o;simp only[Qb]at h;subst h;refine⟨u,v,aMR _ _ _ _ _ n,?_,d,p,rfl,o⟩;cases u with
      |normal=>exact .inl rfl
      |ret=>exact .inr rfl
      |exit i=>exact absurd rfl (c i)
     ·cases h
    ·cases h
   ·cases h
  ·cases h
end Go.Vd
namespace Go.Vd
open Go.Proofs Go.RowKit
inductive Tz where
 |bo|st|pt|fu|nf|mp|un
 |im (k:IntKind)
 |sl (e sz by':Nat)
 |gr (zs:List D) (fs:List (Nat×Nat))
 |ar (zs:List D) (len e:Nat)
def zT:Nat->Tz
 |3=> .im .i64
 |4=> .bo
 |5=> .im .u8
 |9=> .st
 |21=> .im .i32
 |22=> .im .u16
 |23=> .sl 9 1 16
 |26=> .sl 68 3 32
 |28=> .gr [(.slice true [] [])] [(0,26)]
 |29=> .sl 107 3 56
 |31=> .gr [(.slice true [] [])] [(0,29)]
 |33=> .gr [(.bool false),(.int .i64 0),(.str []),(.slice true [] []),(.slice true [] [])] [(0,4),(1,3),(2,9),(3,28),(4,31)]
 |34=> .pt
 |36=> .gr [.nilptr] [(0,34)]
 |38=> .gr [(.bool false),(.int .i64 0),(.str []),(.slice true [] []),(.slice true [] []),.nilptr,(.int .i64 0)] [(0,33),(5,36),(6,3)]
 |46=> .sl 3 1 8
 |47=> .sl 174 2 24
 |49=> .gr [(.int .u8 0),(.str []),(.str []),(.str []),(.int .i64 0),(.int .i64 0),(.bool false),(.slice true [] []),(.str []),(.slice true [] []),(.str [])] [(0,5),(1,9),(2,9),(3,9),(4,3),(5,3),(6,4),(7,46),(8,9),(9,47),(10,9)]
 |50=> .im .i64
 |58=> .fu
 |62=> .gr [(.int .u8 0),(.str []),(.int .i64 0)] [(0,5),(1,9),(2,3)]
 |66=> .gr [(.int .i64 0),(.bool false)] [(0,3),(1,4)]
 |68=> .gr [(.str []),(.int .i64 0),(.bool false)] [(0,9),(1,66)]
 |71=> .sl 80 3 16
 |73=> .gr [(.int .i64 0),(.bool false),(.int .i64 0),(.slice true [] [])] [(0,3),(1,4),(2,3),(3,71)]
 |80=> .gr [(.int .i64 0),(.bool false),(.bool false)] [(0,3),(1,4),(2,4)]
 |85=> .gr [(.int .u8 0),(.int .i64 0),(.int .i64 0),(.str []),(.slice true [] []),(.int .i64 0),(.bool false),(.int .i64 0),(.slice true [] []),(.bool false)] [(0,5),(1,50),(2,3),(3,9),(4,23),(5,73),(9,4)]
 |98=> .sl 167 3 40
 |100=> .gr [(.str []),(.bool false),(.str []),(.slice true [] []),(.bool false),(.int .i64 0),(.str []),(.slice true [] []),(.slice true [] [])] [(0,9),(1,4),(2,9),(3,98),(4,33)]
 |107=> .gr [(.str []),(.str []),(.slice true [] [])] [(0,9),(1,9),(2,47)]
 |108=> .sl 5 1 1
 |109=> .im .u64
 |113=> .gr [(.str []),(.str [])] [(0,9),(1,9)]
 |124=> .pt
 |126=> .gr [(.str []),(.int .i64 0),(.int .i64 0)] [(0,9),(1,3),(2,50)]
 |133=> .fu
 |136=> .gr [(.str []),(.str []),.nilptr,.nilptr,(.int .i64 0),(.int .i64 0),(.int .i64 0)] [(0,9),(1,9),(2,34),(3,34),(4,3),(5,3),(6,3)]
 |150=> .fu
 |160=> .sl 4 1 1
 |161=> .sl 23 1 24
 |163=> .gr [(.slice true [] []),(.slice true [] []),(.slice true [] []),(.slice true [] []),(.slice true [] [])] [(0,23),(1,23),(2,160),(3,23),(4,161)]
 |167=> .gr [(.int .u8 0),(.str []),(.str [])] [(0,5),(1,9),(2,9)]
 |170=> .fu
 |174=> .gr [(.str []),(.int .u8 0)] [(0,9),(1,5)]
 |176=> .ar [(.str []),(.str []),(.str []),(.str []),(.str []),(.str []),(.str []),(.str []),(.str []),(.str []),(.str []),(.str []),(.str []),(.str []),(.str []),(.str []),(.str []),(.str []),(.str []),(.str []),(.str []),(.str []),(.str []),(.str []),(.str []),(.str []),(.str []),(.str []),(.str []),(.str []),(.str []),(.str []),(.str []),(.str []),(.str []),(.str []),(.str []),(.str [])] 19 113
 |184=> .fu
 |185=> .im .u64
 |189=> .gr [] []
 |194=> .pt
 |196=> .gr [.nilptr,(.slice true [] [])] [(0,194),(1,108)]
 |223=> .fu
 |225=> .pt
 |227=> .gr [(.bool false),(.int .i64 0),(.str []),(.slice true [] []),(.slice true [] []),(.int .u8 0),(.str []),(.str []),(.str []),(.int .i64 0),(.int .i64 0),(.bool false),(.slice true [] []),(.str []),(.slice true [] []),(.str []),(.slice true [] []),(.slice true [] []),(.slice true [] []),(.slice true [] []),(.slice true [] []),(.str []),(.bool false),(.str []),(.slice true [] []),(.bool false),(.int .i64 0),(.str []),(.slice true [] []),(.slice true [] [])] [(0,33),(5,49),(16,163),(21,100)]
 |259=> .fu
 |268=> .im .u32
 |313=> .fu
 |314=> .sl 26 1 24
 |336=> .fu
 |338=> .sl 160 1 24
 |340=> .sl 161 1 24
 |343=> .fu
 |346=> .im .i64
 |354=> .sl 29 1 24
 |356=> .ar [(.slice true [] []),(.slice true [] [])] 2 47
 |363=> .fu
 |_=> .un
def Tz.z:Tz->List D
 | .bo=>[.bool false]
 | .st=>[.str []]
 | .pt=>[.nilptr]
 | .fu=>[.nilFunc]
 | .nf=>[.nilIface]
 | .mp=>[.nilMap]
 | .un=>[]
 | .im k=>[.int k 0]
 | .sl _ _ _=>[.slice true [] []]
 | .gr zs _=>zs
 | .ar zs _ _=>zs
def Tz.k:Tz->Option Nat
 | .gr zs _=>some zs.length
 | .ar zs _ _=>some zs.length
 |_=>none
def Tz.d(t:Tz):D:=match t with
 | .gr zs _=> .agg zs
 | .ar zs _ _=> .agg zs
 |t=>t.z.headD .junk
def Tz.n(t:Tz):Nat:=t.z.length
def tA:Operand->GE
 | .tmp t=> .t t
 | .const v=> .c ((ofVal v).getD .junk)
 | .func f=> .c (.fn f [])
 | .global _=> .t 0
def lk{α:Type}(d:α)(k:Nat):List (Nat×α)->α
 |[]=>d
 |(j,x)::r=>if j=k then x else lk d k r
def fAt(t:Tz)(f:Nat):Nat×Nat:=match t with
 | .gr _ fs=>fs.getD f (0,0)
 |_=>(0,0)
def So:List (Nat×Nat)->List (Nat×Nat)
 |[]=>[]
 |(o,t)::r=>(match zT t with
  | .im _=>[(0,o)]
  | .bo=>[(1,o)]
  | .st=>[(2,o)]
  | .gr _ fs=>fs.map λp=>((match zT p.2 with| .im _=>0| .bo=>1|_=>2),o+p.1)
  |_=>[])++So r
def tE(ne:Bool)(t:Tz)(a b:GE):DOp:=match t with
 | .bo=> .beq ne a b
 | .im _=> .bin (if ne=true then .neq else .eql) a b
 | .st=> .bin (if ne=true then .neq else .eql) a b
 | .gr _ fs=> .seq ne (So fs) a b
 | .sl _ _ _=> .nileq ne 0 a b
 | .pt=> .nileq ne 1 a b
 | .fu=> .nileq ne 3 a b
 | .nf=> .nileq ne 2 a b
 |_=> .stop
def tB(o:BinOp)(t:Tz)(a b:GE):DOp:=match o with
 | .eql=>tE false t a b
 | .neq=>tE true t a b
 |o=> .bin o a b
def tC(s t:Tz)(x:GE):DOp:=match s,t with
 | .im _,.im k=> .conv k x
 | .st,.st=> .s2s x
 | .st,.sl _ _ _=> .s2b x
 | .sl _ _ _,.st=> .b2s x
 |_,_=> .stop
def tX(t:Tz)(x i:GE):DOp:=match t with
 | .sl _ s _=> .iaddr s x i
 | .ar _ n e=> .iadda n (zT e).n x i
 |_=> .stop
def tI(t:Tz)(x i:GE):DOp:=match t with
 | .st=> .idxs x i
 | .ar _ n e=>(match (zT e).k with
  |none=> .idxa n x i
  |some s=> .idxm n s x i)
 |_=> .stop
def tS(t:Tz)(x:GE)(l h:Option GE):DOp:=match t with
 | .st=> .cuts x l h
 | .sl _ s _=> .cutl s x l h
 |_=> .stop
def tP(t:Tz)(l:List (Nat×Operand)):DOp:=match t with
 | .gr zs fs=> .build zs (l.map λp=>((fs.getD p.1 (0,0)).1,(zT (fs.getD p.1 (0,0)).2).n,tA p.2))
 | .ar zs _ e=> .build zs (l.map λp=>(p.1*(zT e).n,(zT e).n,tA p.2))
 |_=> .stop
def tG(t:Tz)(l:List (Nat×Operand)):DOp:=match t with
 | .sl e s _=> .bslice e s (l.map λp=>tA p.2)
 |_=> .stop
def tM(t:Tz)(n c:GE):DOp:=match t with
 | .sl e s b=> .mksl e s b (zT e).d n c
 |_=> .stop
def tL(c:Callee)(xs:List Operand)(ts:List Nat):DOp:=match c with
 | .value f=> .call (tA f) (xs.map tA)
 | .builtin .len=>(match xs,ts with
  |[x],[t]=>(match zT t with| .st=> .len true (tA x)|_=> .len false (tA x))
  |_,_=> .stop)
 | .builtin .append=>(match xs,ts with
  |[x,y],[t,_]=>(match zT t with| .sl e s b=> .app e s b (tA x) (tA y)|_=> .stop)
  |_,_=> .stop)
 | .builtin .max=>(match xs with|[x,y]=> .mxm true (tA x) (tA y)|_=> .stop)
 | .builtin .min=>(match xs with|[x,y]=> .mxm false (tA x) (tA y)|_=> .stop)
 |_=> .stop
def tO:Op->DOp
 | .move x=> .mv (tA x)
 | .assign x=> .mv (tA x)
 | .pick c a b=> .pick (tA c) (tA a) (tA b)
 | .alloc t=> .alloc (zT t).z
 | .box _ x=> .box (tA x)
 | .build t l=>tP (zT t) l.toList
 | .buildSlice t _ l=>tG (zT t) l.toList
 | .load t x=> .load (zT t).k (tA x)
 | .store t x v=> .store (zT t).n (tA x) (tA v)
 | .nilCheck x=> .nilchk (tA x)
 | .binOp o t x y _=>tB o (zT t) (tA x) (tA y)
 | .unOp o _ x=> .un o (tA x)
 | .convert s t x=>tC (zT s) (zT t) (tA x)
 | .fieldAddr t x f=> .faddr (fAt (zT t) f).1 (tA x)
 | .field t x f=> .field (zT (fAt (zT t) f).2).k (fAt (zT t) f).1 (tA x)
 | .indexAddr t x i=>tX (zT t) (tA x) (tA i)
 | .index t x i=>tI (zT t) (tA x) (tA i)
 | .slice t x l h _=>tS (zT t) (tA x) (l.map tA) (h.map tA)
 | .makeInterface t x=> .mkif t (tA x)
 | .typeAssert x _ t ok=> .tass t ok (zT t).d (tA x)
 | .extract x i=> .ext i (tA x)
 | .makeSlice t n c=>tM (zT t) (tA n) (tA c)
 | .range _ x=> .range (tA x)
 | .next x _=> .next (tA x)
 | .makeFunc (.func f) _ l=> .mkfn f (l.toList.map tA)
 | .call c=>tL c.callee c.args.toList c.argTypes.toList
 |_=> .stop
def tR(o:Oper):DOper:=⟨o.dst,tO o.op,[],o.guard⟩
def rL:Code->Nat
 | .region i _ _=>i
 | .seq a _=>rL a
 | .block _ a=>rL a
 | .loop a=>rL a
 |_=>0
def We(k:Nat):Code->Option Code
 | .seq a b=>(We k a).or (We k b)
 | .cond _ a b=>(We k a).or (We k b)
 | .block _ a=>We k a
 | .loop a=>if rL a=k then some a else We k a
 |_=>none
def tQ(ps:List (Nat×List (Nat×Nat)))(ls:List (Nat×DC)):Code->DC
 | .skip=> .skip
 | .ret=> .ret
 | .exit i=> .exit i
 | .region i ops false=> .row (ops.toList.map tR)
 | .region i ops true=> .drawn (ops.toList.map tR) (lk [] i ps)
 | .seq a b=> .seq (tQ ps ls a) (tQ ps ls b)
 | .cond c a b=> .cond (tA c) (tQ ps ls a) (tQ ps ls b)
 | .block i c=> .block i (tQ ps ls c)
 | .loop c=> .loop (lk .skip (rL c) ls)
 |_=> .skip
def tAi(k i):tA (.const (.int k i))= .c (.int k i):=rfl
def tAb(b):tA (.const (.bool b))= .c (.bool b):=rfl
def tAs(s):tA (.const (.string s))= .c (.str s.data.toList):=rfl
def tAl:tA (.const (.slice none 0 0))= .c (.slice true [] []):=rfl
def tAp:tA (.const (.pointer none))= .c .nilptr:=rfl
def tAn:tA (.const .nilIface)= .c .nilIface:=rfl
def tAu:tA (.const .nilFunc)= .c .nilFunc:=rfl
def tAg(l):tA (.const (.agg l))= .c ((ofVal (.agg l)).getD .junk):=rfl
def tAt(t):tA (.tmp t)= .t t:=rfl
def tAf(f):tA (.func f)= .c (.fn f []):=rfl
def bAt(f:Func):Code:=f.body.getD .skip
abbrev y0(f:Func)(ps:List (Nat×List (Nat×Nat)))(ls:List (Nat×DC)){c:DC}(_:tQ ps ls (bAt f)=c:=by exact Eq.trans (by conv=>lhs;whnf) (by simp only[tQ,tR,tO,tAt,tAi,tAb,tAs,tAf,tAl,tAp,tAn,tAu,tAg,zT,Tz.k,Tz.z,Tz.n,Tz.d,tL,tP,tB,tE,tX,tS,tI,tG,tC,tM,fAt,So,lk,ofVal,List.getD_cons_zero,List.getD_cons_succ,List.map_cons,List.map_nil,List.length_cons,List.length_nil,List.headD_cons,List.cons_append,List.nil_append,Option.map_some,Option.map_none,Option.getD_some,Bool.false_eq_true,reduceIte,Nat.reduceAdd,Nat.reduceMul,Nat.reduceEqDiff]<;>rfl)):DC:=c
abbrev y1(f:Func)(k:Nat)(ps:List (Nat×List (Nat×Nat)))(ls:List (Nat×DC)){c:DC}(_:tQ ps ls ((We k (bAt f)).getD .skip)=c:=by exact Eq.trans (by conv=>lhs;whnf) (by simp only[tQ,tR,tO,tAt,tAi,tAb,tAs,tAf,tAl,tAp,tAn,tAu,tAg,zT,Tz.k,Tz.z,Tz.n,Tz.d,tL,tP,tB,tE,tX,tS,tI,tG,tC,tM,fAt,So,lk,ofVal,List.getD_cons_zero,List.getD_cons_succ,List.map_cons,List.map_nil,List.length_cons,List.length_nil,List.headD_cons,List.cons_append,List.nil_append,Option.map_some,Option.map_none,Option.getD_some,Bool.false_eq_true,reduceIte,Nat.reduceAdd,Nat.reduceMul,Nat.reduceEqDiff]<;>rfl)):DC:=c
end Go.Vd
namespace Go.Vd
open Go.RowKit
structure nL (p:Id->Id):Prop where
 inv:∀i,p (p i)=i
 nil:p []=[]
def nL.inj{p:Id->Id}(h:nL p){i j:Id}(e:p i=p j):i=j:=by rw[←h.inv i,e,h.inv]
def nL.nn{p:Id->Id}(h:nL p){i:Id}(e:p i≠[]):i≠[]:=λhi=>e (by rw[hi,h.nil])
section
variable{P:Program}{S:Gz}{f:FuncId}{N:Nat}{dc:DC}{rs:List RV}
end
section
variable{P:Program}{f:FuncId}
end
def Dz(e:Nat):G8 where
 rd:=λ_ _=>[]
 ex:=λds _ fr=>match ds with
  |[.slice true _ [],.int .i64 k]=>if 0<k∧k<=1000000 then some (.slice false (0::fr) [],[(0::fr,0,[.tok (e+1)])])else none
  |_=>none
def L9 {P:Program} {f:FuncId} {e sz:Nat} (fa:∃fn,P.funcs[f]?=some fn∧fn.body.isSome=true∧(fn.name== "runtime.NumGoroutine")=false) (ka:0<sz)
  (hi:∃ti z,P.info? e=some ti∧ti.size=sz∧ti.zero=some z∧z.cells.size=sz)
  (b:∀(w:World)(k:Nat),0<k->k<=1000000->Calls P f #[.slice none 0 0,.int .i64 (k:Int)] w λev w'=>∃c cs,c<=maxLen∧cs.size=c*sz∧ev= .returned (.slice (some ⟨w.heap.size,0,none⟩) 0 c)∧w'=w.drew.alloc (.cells cs e)):(Dz e).ok P f:=by
 refine⟨fa,λds m m' fr _=>rfl,?_⟩;intro B w0 w m g fr ds vs r u s ia hl ea y;simp only[Dz]at y;split at y
 ·rename_i t k;split at y
  ·rename_i o;obtain⟨oa,hk⟩:=o;simp only[Qb,Qs]at y;obtain⟨rfl,rfl⟩:=y
   match vs,hl with
   |[v0,v1],_=>
    have ua:=ea 0 _ v0 rfl rfl;have qa:=(ea 1 _ v1 rfl rfl).int_inv;subst qa;have e0:v0= .slice none 0 0:=by
     rcases ua.slice_inv with ⟨_,_,e⟩|⟨h,_⟩
     ·exact e
     ·cases h
    subst e0;have na:((k.toNat:Nat):Int)=k:=Int.toNat_of_nonneg O;have hw:=b w k.toNat O O;rw[na]at hw;refine hw.mono ?_;rintro ev w' ⟨c,cs,eb,q,rfl,rfl⟩;have va:=ia (0::fr) (QI 0 fr);have a:=(s.drew).newTok va (e:=e) (n:=0) (c:=c) (sz:=sz) (cur:=cs) ka hi (Qx _) eb q;have ma:=(GY.drew w g).trans (GY.newTok (w:=w.drew) (t:=0::fr) (n:=0) (c:=c) (sz:=sz) (Obj.cells cs e) s.drew.gz va.2.2 rfl);refine⟨_,_,rfl,a,ma,?_,λi hf hn=>CN hf (λh=>hn ((QI 0 fr).trans h)) _ _ _ _ _⟩;exact aH (sz:=sz) (xs:=[]) (vs:=[]) (cur:=cs) (T:=e) (fz:=(0,0)) (heap_alloc_new w.drew _) rfl (Qx _) (λd p=>by cases p) (AW.nil _ _) (λj v x=>by simp at x) U (λ_=>Xn) (λd p=>by cases p)
  ·cases y
 ·cases y
def ES:List D->Option (List D)
 |[]=>some []
 | .slice _ _ xs::r=>(ES r).map (xs++·)
 |_=>none
def Ue:D->Bool
 | .str _=>true
 |_=>false
def kM:D->List UInt8
 | .str s=>s
 |_=>[]
def aFn{P:Program}{B:Nat}{w0 w i:World}{m:GB}{g:Gh}{e n:Nat}{v:Value}{xs:List D}(hi:GJ P B w0 m w g)(f:Below w.heap.size w i)(q:xs.all Ue=true)(hn:n=xs.length)
  (ho:i.ownsRow w.heap.size e 1 v n (xs.map λd=>Value.string ⟨(kM d).toArray⟩)) (t:v≠ .slice none 0 0):Rep i (g.over w i) (.slice false [] xs) v:=by
 obtain⟨u,y⟩:=ho;rcases y with ⟨y,_⟩|⟨b,cap,cur,rfl,ea,hh,wa,eb,o,z⟩
 ·exact absurd y t
 ·have c:∀d∈xs,d.cells.length=1∧d.calm=true:=by
   intro d p;have:=Qt.1 q d p;unfold Ue at this;split at this
   ·exact YV
   ·cases this
  have k:AW i (g.over w i) (flat xs) (xs.map λd=>Value.string ⟨(kM d).toArray⟩):=by
   clear hn u z t;induction xs with
   |nil=>exact AW.nil _ _
   |cons x r ih=>
    simp only[ZI,Q3]at q;have a:=ih q.2 (λd p=>c d (Q1 _ p))
    match x,q.1 with
    | .str s,_=>exact AW.append (AW.one (.str s) rfl) a
  refine aH (sz:=1) (vs:=xs.map λd=>Value.string ⟨(kM d).toArray⟩) hh hn wa (λd p=>(c d p).1) k (λj v t=>?_) ?_ (λh=>absurd rfl h) (λd p=>(c d p).2)
  ·grind
  ·grind [Gh.over]
mutual
def D.off(i:Id):D->Bool
 | .ptr j _=>j !=i
 | .row j _=>j !=i
 | .agg cs=>aY i cs
 | .tup cs=>aY i cs
 | .fn _ cs=>aY i cs
 |_=>true
def aY(i:Id):List D->Bool
 |[]=>true
 |d::r=>D.off i d&&aY i r
end
def H9{i:Id}:∀{l:List D},aY i l=true↔∀d∈l,d.off i=true
 |[]=>by simp[aY]
 |d::r=>by simp only[aY,Q3,H9,Zm,forall_eq_or_imp]
def TS{i:Id}{w:World}{g:Gh}{ds:List D}{vs:List Value}(hl:vs.length=ds.length)(h:∀(j:Nat) d v,ds[j]?=some d->vs[j]?=some v->d.off i=true):aY i ds=true:=by
 rw[H9];intro d p;obtain⟨j,u,rfl⟩:=QW p;exact h j _ vs[j] (Qc u) (Qc O)
def Rep.off{w:World}{g:Gh}{i:Id}(hi:g.dl i=none){d:D}{v:Value}(h:Rep w g d v):d.off i=true:=by
 induction h with
 |ptr j o b u=>
  simp only[D.off,bne_iff_ne,ne_eq];rintro rfl;rw[hi]at u;cases u
 |row j n c b e u=>
  simp only[D.off,bne_iff_ne,ne_eq];rintro rfl;rw[hi]at u;cases u
 |agg ds vs u y p ih=>simp only[D.off];exact TS (w:=w) (g:=g) u ih
 |tup ds vs u y ih=>simp only[D.off];exact TS (w:=w) (g:=g) u ih
 |fn f ds vs u y ih=>simp only[D.off];exact TS (w:=w) (g:=g) u ih
 |_=>rfl
def Rep.drop{w:World}{g g':Gh}{i:Id}(oa:∀j b,j≠i->g.dl j=some b->g'.dl j=some b)(hG:∀b,g.G b<=g'.G b)(u:∀j x,g.tb j=some x->g'.tb j=some x){d:D}{v:Value}(h:Rep w g d v)(z:d.off i=true):Rep w g' d v:=by
 have calm:∀{d:D} {v:Value},Rep w g d v->d.calm=true->Rep w g' d v:=λh hc=>h.calm_to hc (λ_ _=>rfl) hG
 have cf:∀{xs:List D},(∀d∈xs,d.calm=true)->∀d∈flat xs,d.calm=true:=λh9 d p=>by
  have:=Np h9 d p
  first|exact this|(cases d<;>simp_all [D.calm,D.calm1])
 induction h with
 |junk v=>exact .junk v
 |bool b=>exact .bool b
 |int k n=>exact .int k n
 |str s=>exact .str s
 |nils t=>exact .nils _
 |slice t xs a n c sz vv q y h3 r h5 h6 h7 h8 h9 ih=>
  refine .slice t xs a n c sz vv q y h3 r h5 (λj d p=>calm (h6 j d p) (cf h9 d (Qr p))) (λh=>QR (h7 h) (hG _)) (λht=>?_) h9;obtain⟨q1,q2,q3⟩:=h8 ht;exact⟨q1,q2,u _ _ q3⟩
 |ptr j o b q=>exact .ptr j o b (oa j b (by simpa[D.off]using z) q)
 |row j n c b e q=>exact .row j n c b e (oa j b (by simpa[D.off]using z) q)
 |eptr ds a vv q y h3 r h5=>exact .eptr ds a vv q y (λj d p=>calm (h3 j d p) (h5 d (Qr p))) (λh=>QR (r h) (hG _)) h5
 |nilp=>exact .nilp
 |agg ds vs q y h3 ih=>
  simp only[D.off,H9]at z;exact .agg _ vs q y (λj d v p m=>ih j d v p m (z d (Qr p)))
 |tup ds vs q y ih=>
  simp only[D.off,H9]at z;exact .tup _ vs q (λj d v p m=>ih j d v p m (z d (Qr p)))
 |iface t d v q y ih=>exact .iface t d v q (calm y q)
 |nili=>exact .nili
 |fn f ds vs q y ih=>
  simp only[D.off,H9]at z;exact .fn f _ vs q (λj d v p m=>ih j d v p m (z d (Qr p)))
 |nilf=>exact .nilf
 |nilm=>exact .nilm
 |itp j b q=>exact .itp j b (u _ _ q)
def aCk{i:Id}{d:D}(h:d.calm1=true):d.off i=true:=by
 cases d with
 |fn f cs=>
  have:cs=[]:=by simpa[D.calm1]using h
  subst this;rfl
 |_=>first|rfl|(simp[D.calm1]at h;done)
def kB:∀{u:GF} {m:GB} {i:Id} {o:Nat} {d:D},(∀p∈u,∀x∈p.2.2,x.calm1=true)->GF.app m u i o=some d->d.calm1=true∨m i o=some d
 |[],m,i,o,d,_,h=> .inr h
 |(j,k,ds)::u,m,i,o,d,hu,h=>by
  rcases kB (u:=u) (λp g=>hu p (Q1 _ g)) h with h1|h1
  ·exact .inl h1
  ·by_cases v:i=j∧k<=o∧o<k+ds.length
   ·left;have:m.put j k ds i o=ds[o-k]?:=by unfold GB.put;rw[if_pos v]
    rw[this]at h1;exact hu _ (Q5 ..) d (Qr h1)
   ·grind [GB.put]
def kA:∀{u:GF} {m:GB} {i:Id} {o:Nat},(∀p∈u,p.1≠i)->GF.app m u i o=m i o
 |[],m,i,o,_=>rfl
 |(j,k,ds)::u,m,i,o,hu=>by
  have q:=kA (u:=u) (m:=m.put j k ds) (i:=i) (o:=o) (λp g=>hu p (Q1 _ g));have y:i≠j:=λe=>hu _ (Q5 ..) e.symm
  exact q.trans (aA y)
def mD:∀{xs:List D},(∀x∈xs,x.cells=[x])->flat xs=xs
 |[],_=>rfl
 |x::r,h=>by
  rw[flat,h x (Q5 ..),mD λy o=>h y (Q1 _ o)];rfl
section
variable{P:Program}{B:Nat}{w0 w:World}{m:GB}{g:Gh}{S:Gz}{f:FuncId}{N:Nat}{dc:DC}{rs:List RV}
def Gh.settle(g:Gh)(i:Id)(b n:Nat):Gh:={g with dl:=λj=>if j=i then none else g.dl j,G:=λv=>if v=b then n else g.G v}
theorem aFx (hS : Gz.ok P S) (hf : Fn P f N dc rs) {q : G8} (da : ∀ ds m m' fr, (∀ l ∈ q.rd ds m, m l.1 l.2 = m' l.1 l.2) → q.ex ds m fr = q.ex ds m' fr)
  (hq : ∀ ds m fr r u, q.ex ds m fr = some (r, u) → (∀ i o, fr <:+ i → m i o = none) → ds.length ≤ N ∧ (∀ p ∈ u, ¬ fr <:+ p.1 ∧ ∀ x ∈ p.2.2, x.calm1 = true) ∧ ∃ xs, r = .slice false [] xs ∧ (∀ x ∈ xs, x.calm = true ∧ x.cells = [x]) ∧
   dc.wp S fr (DW rs fun d m' => ∃ i, d = .row i xs.length ∧ fr <:+ i ∧ (∀ (j : Nat) x, xs[j]? = some x → m' i j = some x) ∧ ∀ i o x, GF.app m u i o = some x → m' i o = some x) ⟨BE ds, m, 0⟩) : q.ok P f := by
 obtain ⟨fn, ba, h1, h2, h3, h4, h5, h6⟩ := hf.is
 refine ⟨⟨fn, h1, by rw [h2]; rfl, h3⟩, da, ?_⟩
 intro B w0 w m g fr ds vs r u hi ia hl ea aa
 have ca : ∀ k i, (k :: fr) <:+ i → BU m g i := fun k i h => ia i ((QI k fr).trans h)
 obtain ⟨hN, hu, xs, rfl, eb, za⟩ := hq ds m fr r u aa (fun i o h => (ia i h).1 o)
 have ja := F5 (ns := fr) hS hf hN hi ca hl ea za
 refine ja.mono ?_
 rintro e w' ⟨v, d, m', g', rfl, ha, ma, t, ya, i, rfl, fb, ga, ta⟩
 obtain ⟨b, cap, rfl, qa, hb⟩ := ya.row_inv
 obtain ⟨ib, lb, cur, T, a, oa⟩ := ha.obj i b hb
 have ua : g.dl i = none := (ia i fb).2.1
 have y : ∀ b', g'.G b' ≤ (g'.settle i b xs.length).G b' := by
  grind [Gh.settle]
 have gb : ∀ {d : D} {v : Value}, Rep w' g' d v → d.off i = true → Rep w' (g'.settle i b xs.length) d v := fun h ho =>
  h.drop (i := i) (fun j b' hj e => by simp only [Gh.settle]; rw [if_neg hj]; exact e) y (fun _ _ e => e) ho
 have base := ha.less ta
 have z : ∀ o, GF.app m u i o = none := fun o => by
  rw [kA (fun p hp e => (hu p hp).1 (e ▸ fb))]; exact (ia i fb).1 o
 have db : ∀ j o d, GF.app m u j o = some d → d.off i = true := by
  intro j o d hd
  rcases kB (fun p hp => (hu p hp).2) hd with h | h
  ·exact aCk h
  ·cases hdl : g.dl j with
   | none =>
    have hk := hi.kind j o d h hdl
    cases d <;> first | rfl | cases hk
   | some b' =>
    obtain ⟨_, _, bb, _, _, hr⟩ := hi.obj j b' hdl
    obtain ⟨v', _, _, mb⟩ := hr o d h
    exact mb.off ua
 have jb : GJ P B w0 (GF.app m u) w' (g'.settle i b xs.length) := by
  refine ⟨ha.below, ha.size, fun b' wa => ?_, fun b' wa => ?_, fun j b' hj => ?_, fun j j' b' e1 e2 => ?_, fun j o d hm hn => ?_, fun j e hm => ?_, base.tinj, base.itr.to (fun _ _ _ e => e) fun j b1 s p _ _ _ e1 e2 e3 => ?_⟩
  rotate_right
  ·have kb : b1 ≠ b := fun e' => e3 i (e' ▸ hb)
   refine ⟨rfl, rfl, by simp only [Gh.settle]; rw [if_neg kb]; exact e2, fun i' h' => ?_⟩
   simp only [Gh.settle] at h'
   split at h'
   ·cases h'
   ·exact e3 i' h'
  ·simp only [Gh.settle]
   have : b < w'.heap.size := (QG.1 a).1
   rw [if_neg O]; exact ha.gz b' wa
  ·simp only [Gh.settle]; rw [if_neg O]; exact ha.old b' wa
  ·simp only [Gh.settle] at hj
   split at hj
   ·cases hj
   ·rename_i fa
    obtain ⟨p, q, bb, T', hh, r⟩ := base.obj j b' hj
    have kb : b' ≠ b := fun e => fa (ha.inj j i b (e ▸ hj) hb)
    refine ⟨p, by simp only [Gh.settle]; rw [if_neg kb]; exact q, bb, T', hh, fun o d hm => ?_⟩
    obtain ⟨v', r1, r2, r3⟩ := r o d hm
    exact ⟨v', r1, r2, gb r3 (db j o d hm)⟩
  ·simp only [Gh.settle] at e1 e2
   split at e1
   ·cases e1
   ·split at e2
    ·cases e2
    ·exact ha.inj j j' b' e1 e2
  ·by_cases cb : j = i
   ·subst cb; rw [z o] at hm; cases hm
   ·simp only [Gh.settle, if_neg cb] at hn
    exact base.kind j o d hm hn
  ·obtain ⟨b1, n, c, sz, na, t1, t2, t3, t4, t5, t6, t7, t8, t9, xa⟩ := base.tok j e hm
   have kb : b1 ≠ b := fun e' => xa i (e' ▸ hb)
   refine ⟨b1, n, c, sz, na, t1, t2, t3, t4, t5, t6, t7, t8, by simp only [Gh.settle]; rw [if_neg kb]; exact t9, fun i' h' => ?_⟩
   simp only [Gh.settle] at h'
   split at h'
   ·cases h'
   ·exact xa i' h'
 have ab : ∀ (j : Nat), j < xs.length → ∃ v, cur[j]? = some v ∧ v.oneCell' = true ∧ ∃ x, xs[j]? = some x ∧ Rep w' g' x v := by
  intro j hj
  obtain ⟨v', r1, r2, r3⟩ := oa j xs[j] (ga j _ (Qc hj))
  exact ⟨v', r1, r2, _, Qc hj, r3⟩
 have ka : xs.length ≤ cur.size := by
  rcases Zu xs.length with h | h
  ·omega
  ·obtain ⟨v', r1, _⟩ := ab (xs.length - 1) O
   have := (QG.1 r1).1
   omega
 have la : ∀ x ∈ xs, x.calm = true := fun x hx => (eb x hx).1
 have va : flat xs = xs := mD fun x hx => (eb x hx).2
 have ra : AW w' (g'.settle i b xs.length) (flat xs) (cur.toList.take xs.length) := by
  rw [va]
  refine ⟨by simp; omega, fun v hv => ?_, fun j x v hx hv => ?_⟩
  ·obtain ⟨j, hj, rfl⟩ := QW hv
   have sa : j < xs.length := Zj hj (Zg _ _)
   obtain ⟨v', r1, r2, _⟩ := ab j sa
   have : (cur.toList.take xs.length)[j]? = some v' := by rw [QK sa]; simpa using r1
   rw [Qc hj] at this
   rw [QF this]; exact r2
  ·have sa : j < xs.length := (Qq.1 hx).1
   obtain ⟨v', r1, r2, x', pa, r3⟩ := ab j sa
   rw [hx] at pa; obtain rfl := QF pa
   have : (cur.toList.take xs.length)[j]? = some v' := by rw [QK sa]; simpa using r1
   rw [hv] at this; obtain rfl := QF this
   exact r3.calm_to (la x (Qr hx)) (fun _ _ => rfl) y
 refine ⟨_, g'.settle i b xs.length, rfl, jb, ⟨ma.cell, fun b' => QR (ma.G b') (y b'), fun j b' hj => ?_, ma.G0, ma.tb⟩, ?_, fun j hf hn => ?_⟩
 ·simp only [Gh.settle]
  rw [if_neg (fun e => by rw [e, ua] at hj; cases hj)]; exact ma.dl j b' hj
 ·refine aH (sz := 1) (cur := cur) (vs := cur.toList.take xs.length) a rfl qa (fun d hd => by rw [(eb d hd).2]; rfl) ra (fun j v hv => ?_) (by simp [Gh.settle]) (fun h => absurd rfl h) la
  have hj : j < xs.length := Zj (Qq.1 hv).1 (Zg _ _)
  rw [QK hj] at hv
  simpa using hv
 ·obtain ⟨k1, k2, k3⟩ := t j hf hn
  refine ⟨fun o => ?_, ?_, k3⟩
  ·cases hx : GF.app m u j o with
   | none => rfl
   | some x => exact absurd (k1 o) (by rw [ta j o x hx]; simp)
  ·simp only [Gh.settle]
   split
   ·rfl
   ·exact k2
end
end Go.Vd
namespace Go.Vd
open Go.Proofs Go.RowKit
def aJI:=y0 f322 [] []
def Oq:=y1 f294 5 [] []
def aJL:=y0 f294 [] [(5,Oq)]
def Ot:=y1 f242 3 [] []
def aJT:=y0 f242 [] [(3,Ot)]
def aKk:=y0 f174 [] []
def aK3:=y0 f107 [] []
abbrev Kq(F:List D->Option D)(n:Nat):=(Ac F).ok Qf n
def A4{P:Program}:Gz.ok P (λ_=>none):=λf q h=>Xd
def EI(c:Int):Bool:=decide (97<=c∧c<=122)||decide (65<=c∧c<=90)||decide (48<=c∧c<=57)||decide (c=45)||decide (c=46)||decide (c=95)||decide (192<=c∧c<=55295)
def aD9:List D->Option D
 |[.int .i32 c]=>some (.bool (EI c))
 |_=>none
def aQO:Kq aD9 322:=by
 refine AL (S:=λ_=>none) A4 (Aj func322:Fn Qf 322 35 aJI [.t 2]) (λds r h=>?_) (λds r h=>?_)
 ·unfold aD9 at h;split at h
  ·simp
  ·cases h
 ·unfold aD9 at h;split at h
  ·rename_i c;simp only[Qb]at h;subst h;unfold aJI;simp only[↓C2,GD,simprocAttr]
   repeat' (first|(refine aG (λh=>?_) (λh=>?_)<;>try (exfalso;omega))|(simp only[↓C2,GA,simprocAttr, *]))
   all_goals (rw[D.bool.injEq,Bool.eq_iff_iff];simp[EI];try omega)
  ·cases h
theorem GZ{x:Int}(u:-9223372036854775808<=x)(y:x<9223372036854775808):IntKind.i64.wrap x=x:=IntWalk.i64_in _ ⟨u,O⟩
def wJ{j:Nat}(h:j<4611686018427387904):IntKind.i64.wrap ((j:Int)+1)=((j+1:Nat):Int):=GZ O O
def nJ{j:Nat}:(0:Int)<=(j:Int):=O
abbrev Bs:=List UInt8
def GT(s:Bs)(i:Nat):Nat:=(s.getD i 0).toNat
theorem P1(s:Bs)(i:Nat):GT s i<256:=UInt8.toNat_lt _
def D4(s:Bs)(i:Nat):Bool:=decide (i<s.length)&&decide (128<=GT s i)&&decide (GT s i<192)
def Aq:List (FuncId×G8)->Gz
 |[],_=>none
 |(k,q)::r,f=>if f=k then some q else Aq r f
def Bl{P:Program}{l:List (FuncId×G8)}(h:Gz.ok P (Aq l)):∃S:Gz,Gz.ok P S∧∀f q,Aq l f=some q->S f=some q:=⟨_,h,λ_ _ e=>e⟩
def Ad{P:Program}:Gz.ok P (Aq []):=λf q h=>Xd
def Aa{P:Program}{k:FuncId}{q:G8}{r:List (FuncId×G8)}(h:q.ok P k)(n:Gz.ok P (Aq r)):Gz.ok P (Aq ((k,q)::r)):=λf j e=>by
 simp only[Aq]at e;split at e
 ·simp_all
 ·exact n f j e
def FR(s:Bs)(i:Nat):Int×Nat:=
 let b:=GT s i
 if b<128 then(b,1)
 else if 192<=b∧b<224∧D4 s (i+1)=true∧128<=64*((b:Int)-192)+(GT s (i+1)-128)then(64*((b:Int)-192)+(GT s (i+1)-128),2)
 else if 224<=b∧b<240∧D4 s (i+1)=true∧D4 s (i+2)=true∧2048<=4096*((b:Int)-224)+64*(GT s (i+1)-128)+(GT s (i+2)-128)∧
   (4096*((b:Int)-224)+64*(GT s (i+1)-128)+(GT s (i+2)-128)<55296∨57343<4096*((b:Int)-224)+64*(GT s (i+1)-128)+(GT s (i+2)-128))then
  (4096*((b:Int)-224)+64*(GT s (i+1)-128)+(GT s (i+2)-128),3)
 else if 240<=b∧b<248∧D4 s (i+1)=true∧D4 s (i+2)=true∧D4 s (i+3)=true∧65536<=262144*((b:Int)-240)+4096*(GT s (i+1)-128)+64*(GT s (i+2)-128)+(GT s (i+3)-128)∧
   262144*((b:Int)-240)+4096*(GT s (i+1)-128)+64*(GT s (i+2)-128)+(GT s (i+3)-128)<=1114111 then
  (262144*((b:Int)-240)+4096*(GT s (i+1)-128)+64*(GT s (i+2)-128)+(GT s (i+3)-128),4)
 else(-1,1)
theorem FG{s:Bs}{i:Nat}:D4 s i=true↔i<s.length∧128<=GT s i∧GT s i<192:=by simp[D4,and_assoc]
def Na(s:Bs)(i:Nat):((ByteArray.mk s.toArray).get! i).toNat=GT s i:=by
 have:(ByteArray.mk s.toArray).get! i=s.toArray[i]!:=rfl;rw[this];unfold GT;by_cases h:i<s.length
 ·simp[h]
 ·simp[h];rfl
def aE6(s:Bs):(ByteArray.mk s.toArray).size=s.length:=XU
def aBe(s:Bs)(i:Nat)(hi:i<s.length):(Utf8.decode ⟨s.toArray⟩ i).2=(FR s i).2∧EI ((Utf8.decode ⟨s.toArray⟩ i).1:Nat)=EI (FR s i).1:=by
 have b0:=P1 s i;have r:=P1 s (i+1);have f:=P1 s (i+2);have a:=P1 s (i+3);have g:(decide (i+1<s.length)&&(GT s (i+1) / 64==2))=D4 s (i+1):=by
  grind [D4]
 have k:(decide (i+2<s.length)&&(GT s (i+2) / 64==2))=D4 s (i+2):=by
  grind [D4]
 have m:(decide (i+3<s.length)&&(GT s (i+3) / 64==2))=D4 s (i+3):=by
  grind [D4]
 have c1:=@FG s (i+1);have p:=@FG s (i+2);have o:=@FG s (i+3);unfold Utf8.decode FR;simp only[Na,aE6,Q8,g,k,m];generalize D4 s (i+1)=j at *;generalize D4 s (i+2)=t at *;generalize D4 s (i+3)=v at *;generalize GT s i=e at *;generalize GT s (i+1)=b at *;generalize GT s (i+2)=z at *;generalize GT s (i+3)=n at *;clear g k m;have x:EI ((Utf8.runeError:Nat):Int)=EI (-1):=V
 have y:∀c:Nat,Utf8.valid (c:Int)=true↔(c<55296∨(57344<=c∧c<=1114111)):=by
  intro c;simp[Utf8.valid];omega
 have w:(e / 32==6)=decide (192<=e∧e<224):=Yj
 have q:(e / 16==14)=decide (224<=e∧e<240):=Yj
 have u:(e / 8==30)=decide (240<=e∧e<248):=Yj
 simp only[w,q,u,Q3,decide_eq_true_eq,y,ge_iff_le];clear w q u y;cases j<;>cases t<;>cases v<;>simp only[QS,and_false,false_and,if_false,and_true,true_and,false_iff,true_iff]at c1 p o ⊢
 all_goals (repeat' split)<;>first|exact⟨rfl,x⟩|exact⟨rfl,rfl⟩|(exfalso;omega)|(refine⟨rfl,?_⟩;congr 1;omega)
def aFF(s:Bs)(i:Nat)(hi:i<s.length):1<=(FR s i).2∧i+(FR s i).2<=s.length:=by
 grind [FR,FG]
def Ee(s:Bs):Nat->Nat->Nat->Int
 |0,_,n=>if 12<n then 5 else 0
 |f+1,p,n=>if p<s.length then(if EI (FR s p).1=true then Ee s f (p+(FR s p).2) (n+1)else 4)else if 12<n then 5 else 0
def FN(s:Bs):Int:=if s=[]∨s=[46]∨s=[46,46]∨s=[45]then 4 else Ee s s.length 0 0
def aEa:List D->Option D
 |[.str s]=>if s.length<=1000000 then some (.int .i64 (FN s))else none
 |_=>none
def aFL{S:Gz}{ns i:Id}{s:Bs}{e:Int}{Q:Ex->St->Prop}(w:s.length<=1000000)(a:S 322=some (Ac aD9))
  (t:∀v,e=4->v.s 2= .int .i64 4->Q .ret v) (c:∀v (n:Nat),(if 12<n then(5:Int)else 0)=e->v.s 3= .int .i64 (n:Int)->Q (.exit 0) v):
  ∀(f p n:Nat) v g,s.length<=p+f->p<=s.length->n<=p->Ee s f p n=e->v.s 21= .itp i->v.m i 1=some (.it s p)->v.s 3= .int .i64 (n:Int)->A9 S ns Oq Q v g:=by
 intro f;induction f with
 |zero=>
  intro p n v g hf k r z o u x;refine Af Oq.eq_1 ?_;have:¬(p<s.length):=O
  simp only[↓C2,GD,GN,simprocAttr,u,o,this];exact c _ n z Yw
 |succ f ih=>
  intro p n v g hf k r z o u x;refine Af Oq.eq_1 ?_;unfold Ee at z;by_cases y:p<s.length
  ·rw[if_pos y]at z;obtain⟨n1,n2⟩:=aFF s p y;obtain⟨d1,d2⟩:=aBe s p y;rw[←d1]at z n1 n2;rw[←d2]at z;have q:aD9 [.int .i32 ((Utf8.decode ⟨s.toArray⟩ p).1:Nat)]=some (.bool (EI ((Utf8.decode ⟨s.toArray⟩ p).1:Nat))):=rfl;have w1:IntKind.i64.wrap ((n:Int)+1)=((n+1:Nat):Int):=GZ O O;cases ho:EI ((Utf8.decode ⟨s.toArray⟩ p).1:Nat)with
   |true=>
    rw[if_pos ho]at z;simp only[↓C2,GA,simprocAttr,u,o,x,y,Ab a,q,ho,w1];exact ih _ _ _ _ O O O z o Ya rfl
   |false=>
    rw[if_neg (by rw[ho];simp)]at z;simp only[↓C2,GA,simprocAttr,u,o,y,Ab a,q,ho];exact t _ z.symm rfl
  ·rw[if_neg y]at z;simp only[↓C2,GD,GN,simprocAttr,u,o,y];exact c _ n z Yw
def aQP:Kq aEa 294:=by
 obtain⟨S,w,hl⟩:=Bl (Aa aQO Ad);have a:=hl 322 _ rfl;clear hl;refine AL (S:=S) w (Aj func294:Fn Qf 294 32 aJL [.t 2]) (λds r h=>?_) (λds r h=>?_)
 ·unfold aEa at h;split at h
  ·simp
  ·cases h
 ·unfold aEa at h;split at h
  ·rename_i s;split at h
   ·rename_i m;simp only[Qb]at h;subst h;unfold aJL FN;by_cases i:s=[]∨s=[46]∨s=[46,46]∨s=[45]
    ·rw[if_pos i];rcases i with rfl|rfl|rfl|rfl<;>simp only[↓C2,GA,simprocAttr,Qn,show((45:UInt8)=46)=False by decide,and_false,and_self]
    ·rw[if_neg i];obtain⟨a1,g,z,j⟩:s≠[]∧s≠[46]∧s≠[46,46]∧s≠[45]:=by simp only[not_or]at i;exact i
     have c:(s=[])=False:=eq_false a1;have b:(s=[46])=False:=eq_false g;have f:(s=[46,46])=False:=eq_false z;have d:(s=[45])=False:=eq_false j;simp only[↓C2,GD,GN,simprocAttr,c,b,f,d];refine aFL (e:=Ee s s.length 0 0) m a (λv u y=>?_) (λv n u y=>?_) s.length 0 0 _ _ O O O rfl rfl Ya rfl
     ·simp only[↓C2,GA,y,u]
     ·rw[←u];have c1:((12:Int)<(n:Int))=(12<n):=by simp only[eq_iff_iff];omega
      simp only[↓C2,GD,simprocAttr,y,c1];refine aG (λh=>?_) (λh=>?_)<;>simp only[↓C2,GA,simprocAttr,h]
   ·cases h
  ·cases h
end Go.Vd
namespace Go.Vd
open Go.RowKit
def splitC(q:UInt8):Bs->List Bs
 |[]=>[[]]
 |c::r=>if c=q then []::splitC q r else match splitC q r with
  |h::t=>(c::h)::t
  |[]=>[[c]]
theorem Dd{q:UInt8}:∀s,splitC q s≠[]
 |[]=>by simp[splitC]
 |c::r=>by
  unfold splitC;split
  ·simp
  ·split<;>simp
def split_word{q:UInt8}{w:Bs}(h:q∉w):∀s,splitC q (w++q::s)=w::splitC q s:=by
 induction w with
 |nil=>intro s;simp[splitC]
 |cons c r ih=>
  intro s;simp only[Zm,not_or]at h;simp only[Zd,splitC];rw[if_neg (λe=>h.1 e.symm),ih h.2]
def split_one{q:UInt8}{w:Bs}(h:q∉w):splitC q w=[w]:=by
 induction w with
 |nil=>rfl
 |cons c r ih=>
  simp only[Zm,not_or]at h;simp only[splitC];rw[if_neg (λe=>h.1 e.symm),ih h.2]
def Gw(m:GB)(c e:Nat)(nl:Bool)(t:Id):Prop:=nl=true∨∃j,t=[j]∧j<c∧m t 0=some (.tok (e+1))
def Gw.grow{m:GB}{c e c' x:Nat}{nl:Bool}{t:Id}{xs:List D}(h:Gw m c e nl t)(o:c<=c'):I1 (m.put [c'] 0 [.tok x]) e (.slice nl t xs):=by
 rcases h with h|⟨j,rfl,u,y⟩
 ·exact .inl h
 ·refine .inr ⟨?_,U⟩;rw[aA Xc];exact y
theorem Gw.new{m:GB}{c e c':Nat}{nl:Bool}{t:Id}{xs:List D}(o:c'<c):Gw (GF.app m (Bc e [c'] (.slice nl t xs))) c e false [c']:=by
 refine .inr ⟨c',rfl,o,?_⟩;cases nl<;>simp[Bc,GF.app,BG]
def Gw.more{m:GB}{c c' e:Nat}{nl:Bool}{t:Id}(h:Gw m c e nl t)(o:c<=c'):Gw m c' e nl t:=by
 rcases h with h|⟨j,u,y,p⟩
 ·exact .inl h
 ·exact .inr ⟨j,u,O,p⟩
def Gw.put{m:GB}{c e c' o:Nat}{nl:Bool}{t:Id}{ds:List D}(h:Gw m c e nl t)(v:c<=c':=by omega):Gw (m.put [c'] o ds) c e nl t:=by
 rcases h with h|⟨j,rfl,u,y⟩
 ·exact .inl h
 ·refine .inr ⟨j,rfl,u,?_⟩;rw[aA Xc];exact y
def Ga:List D->Option (List Bs)
 |[]=>some []
 | .str s::r=>(Ga r).map (s::·)
 |_=>none
def E6:∀{xs:List D} {l:List Bs},Ga xs=some l->xs=l.map .str
 |[],l,h=>by simp only[Ga,Qb]at h;subst h;rfl
 |x::r,l,h=>by
  unfold Ga at h;split at h
  ·rename_i f;cases f
  ·rename_i s w f;simp only[Qn]at f;obtain⟨rfl,rfl⟩:=f;rw[Ql]at h;obtain⟨q,u,rfl⟩:=h;rw[E6 u];rfl
  ·cases h
theorem F9:∀l:List Bs,Ga (l.map .str)=some l
 |[]=>rfl
 |i::r=>by simp only[Q0,Ga];rw[F9 r];rfl
def Vv:∀l:List Bs,(l.map D.str).all Ue=true
 |[]=>rfl
 |w::r=>by
  show(Ue (.str w)&&_)=true;rw[Vv r];rfl
end Go.Vd
namespace Go.Proofs
open Go.Shelf Go.RowKit Go.Lib
variable{P:Program}{ρ:Ren}
def I9{c:UInt8}{r:List UInt8}:∀{w:List UInt8},c∉w->Lib.indexByte (w++c::r) c=w.length
 |[],_=>by simp[Lib.indexByte]
 |b::w,h=>by
  simp only[Zm,not_or]at h;have ih:=I9 (r:=r) h.2;have m:(b==c)=false:=beq_eq_false_iff_ne.2 (λe=>h.1 e.symm);have u:((w.length:Int)==-1)=false:=beq_eq_false_iff_ne.2 O;rw[Zd,Lib.indexByte,m,ih,u];simp
def splitK_eq(q:UInt8):∀(n:Nat)(s:List UInt8),s.length<=n->Lib.splitK [q] 0 (s.count q) s=Go.Vd.splitC q s:=by
 intro n;induction n with
 |zero=>intro s h;obtain rfl:s=[]:=Zo.1 O;rfl
 |succ n ih=>
  intro s h;by_cases t:q∈s
  ·obtain⟨w,r,rfl,k⟩:=List.eq_append_cons_of_mem t;have o:(w++q::r).count q=r.count q+1:=by rw[List.count_append,Zf k];simp
   have hi:Lib.index (w++q::r) [q]=w.length:=by rw[Lib.index_one];exact I9 k
   have u:¬((w.length:Int)==-1)=true:=λe=>by have:=beq_iff_eq.1 e;omega
   rw[o,Lib.splitK,hi,if_neg u,Go.Vd.split_word k,Qj];have j:(w++q::r).take (w.length+0)=w:=U
   have m:(w++q::r).drop (w.length+[q].length)=r:=by
    simp_all
   rw[j,m,ih r (by simp at h;omega)]
  ·rw[Zf t,Go.Vd.split_one t];rfl
set_option maxHeartbeats 1000000 in
def split_space(q:UInt8)(L:Lays.n146 P ρ)(b:(P.info? (ρ.t 9)).map (λi=>(i.zero,i.size,i.bytes))=some (some (.string ByteArray.empty),1,16))(s:ByteArray)(w:World)(k:s.size<4294967281):
  Calls P (ρ.f 146) #[.string s,.string ⟨#[q]⟩] w λe v=>
   e= .returned (.slice (some ⟨w.heap.size,0,none⟩) (Lib.countB s ⟨#[q]⟩+1) (Lib.countB s ⟨#[q]⟩+1))∧v=w.alloc (.cells ((Lib.splitB ⟨#[q]⟩ 0 (Lib.countB s ⟨#[q]⟩) s).map Value.string).toArray (ρ.t 9)):=by
 have u:1<=(⟨#[q]⟩:ByteArray).size:=QA 1;have ta:=Lib.countB_le ⟨#[q]⟩ u s.size s (QA _);have r:=Lib.splitB_all ⟨#[q]⟩ u 0 _ s rfl;have c:=Any.strings_genSplit_core {L with} b s ⟨#[q]⟩ 0 (-1) (Lib.countB s ⟨#[q]⟩+1) w k u (Qx _)
  (λx cc _=>(Any.strings_Index_one {L with} x q _).mono λe v ⟨z,p⟩=>⟨by rw[z,←Lib.index_one],p⟩)
  ((Any.strings_Count_one {L with} s q w).mono λe v ⟨z,p⟩=>⟨by rw[z];show _=Ending.returned (Value.int .i64 ((Lib.count s.data.toList [q]:Nat):Int));rw[Lib.count_one];rfl,p⟩)
  V V (by rw[if_pos V];omega)
 rw[Zv,r]at c;have m:Lib.cellsOf (Lib.splitB ⟨#[q]⟩ 0 (Lib.countB s ⟨#[q]⟩) s) (Lib.countB s ⟨#[q]⟩+1)=((Lib.splitB ⟨#[q]⟩ 0 (Lib.countB s ⟨#[q]⟩) s).map Value.string).toArray:=by rw[←r];exact Lib.cellsOf_full _
 rw[m]at c;have y:=L.t3;have o:=L.t9;have d:=L.t31;have n:=L.a3;have a9:=L.a9;have h:=L.a31;have z3:=L.z3;have v3:=L.v3;have z9:=L.z9;have v9:=L.v9;have g:=L.z31;have j:=L.v31;have a:∀args w,(callFunc (ρ.f 221) args).run P w= .ok (.enter (ρ.f 221) args) w:=enters_of L.f221 Xa rfl
 go_enter L.f146,Body.n146_ntmps ρ
 go_wp2_with (go_at_fn (ρ.f 221);refine c.mono ?_;rintro e v ⟨rfl,p⟩;rw[p])
 go_ret
 exact YV
end Go.Proofs
namespace Go.Vd
open Go.RowKit Go.Proofs
def DJ:List D->Option D
 |[.str s,.str [q]]=>if s.length<=1000000 then some (.slice false [] ((splitC q s).map .str))else none
 |_=>none
def CB{q:UInt8}:∀s:Bs,(splitC q s).length<=s.length+1
 |[]=>by simp[splitC]
 |c::r=>by
  have ih:=CB (q:=q) r;unfold splitC;split
  ·simp;omega
  ·grind
def wL {P:Program} {ρ:Go.Shelf.Ren} (L:Go.Proofs.Lays.n146 P ρ) (b:(P.info? (ρ.t 9)).map (fun i=>(i.zero,i.size,i.bytes))=some (some (.string ByteArray.empty),1,16)) (fa:∃fn,P.funcs[ρ.f 146]?=some fn∧fn.body.isSome=true∧(fn.name== "runtime.NumGoroutine")=false):(Ac DJ).ok P (ρ.f 146):=by
 refine⟨fa,λds m m' fr _=>rfl,?_⟩;intro B w0 w m g fr ds vs r u hi ia hl ea y;simp only[Ac]at y;split at y
 ·rw[Ql]at y;obtain⟨r',hr,y⟩:=y;simp only[Qs]at y;obtain⟨rfl,rfl⟩:=y
  match ds,vs,hl with
  |[d,d1],[v,v1],_=>
   have h0:=ea 0 d v rfl rfl;have h1:=ea 1 d1 v1 rfl rfl;have p:∃s,d= .str s:=by
    cases d<;>first|exact⟨_,rfl⟩|(exfalso;simp[DJ,D.un]at hr;done)
   obtain⟨s,rfl⟩:=p;have h:∃q,d1= .str [q]:=by
    cases d1 with
    |str z=>
     simp only[Q0,QV,D.un,DJ]at hr;split at hr
     ·simp_all
     ·cases hr
    |_=>exfalso;simp[DJ,D.un]at hr
   obtain⟨q,rfl⟩:=h;simp only[Q0,QV,D.un,DJ]at hr;split at hr
   ·rename_i o;simp only[Qb]at hr;subst hr;rw[h0.str_inv,h1.str_inv];have a:Lib.countB ⟨s.toArray⟩ ⟨#[q]⟩=s.count q:=by
     show Lib.count s [q]=_;exact Lib.count_one q s
    have c:(Lib.splitB ⟨#[q]⟩ 0 (s.count q) ⟨s.toArray⟩).map (·.data.toList)=splitC q s:=by
     rw[Lib.splitB_data];exact Go.Proofs.splitK_eq q s.length s (QA _)
    have j:(splitC q s).length=s.count q+1:=by
     rw[←c,Qy,←a];exact Lib.splitB_all ⟨#[q]⟩ (QA 1) 0 _ _ rfl
    refine(Go.Proofs.split_space q L b ⟨s.toArray⟩ w (by show s.length<_;omega)).mono ?_;rintro ev w' ⟨rfl,rfl⟩;have hb:Below w.heap.size w (w.alloc (.cells ((Lib.splitB ⟨#[q]⟩ 0 (Lib.countB ⟨s.toArray⟩ ⟨#[q]⟩) ⟨s.toArray⟩).map Value.string).toArray (ρ.t 9))):=(Below.refl _ _).alloc (QA _) _;refine⟨_,g.over w _,rfl,hi.over hb,GY.over hi.gz hb,aFn (e:=ρ.t 9) (n:=s.count q+1) hi hb (Vv _) (by rw[Qy,j]) ?_ U,λi hf _=>hf⟩;have pa:=CB (q:=q) s;have k:((splitC q s).map D.str).map (λd=>Value.string ⟨(kM d).toArray⟩)=(Lib.splitB ⟨#[q]⟩ 0 (s.count q) ⟨s.toArray⟩).map Value.string:=by
     rw[←c,QJ,QJ];refine QD λx _=>?_
     rfl
    rw[k,a];have va:((Lib.splitB ⟨#[q]⟩ 0 (s.count q) ⟨s.toArray⟩).map Value.string).length=s.count q+1:=by
     rw[←j,←c];simp
    refine⟨by rw[va];omega,.inr ⟨w.heap.size,s.count q+1,_,rfl,QA _,heap_alloc_new w _,QA _,?_,?_,?_⟩⟩
    ·rw[j]at pa;have:maxLen=9223372036854775807:=rfl;omega
    ·rw[List.size_toArray,va];omega
    ·rw[Q9 (by rw[va];omega)]
   ·cases hr
  |[],_,_=>simp[DJ]at hr
  |[_],_,_=>simp[DJ]at hr
  |_::_::_::_,_,_=>simp[DJ]at hr
 ·cases y
end Go.Vd
namespace Go.Vd
open Go.Proofs Go.RowKit
def Fw:Bool->List Bs->Option Bool
 |w,[]=>some w
 |w,p::r=>if FN p=4 then none else Fw (w||decide (FN p=5)) r
def wI(w:Bool):Int:=if w=true then 5 else 0
def Im(l:List Bs):Int:=match Fw false l with
 |none=>4
 |some w=>if w=true then 5 else if 6<l.length then 24 else 0
def okL(l:List Bs):Prop:=l.length<=1000001∧∀p∈l,p.length<=1000000
theorem NJ(s:Bs):FN s=4∨FN s=5∨FN s=0:=by
 have:∀f p n,Ee s f p n=4∨Ee s f p n=5∨Ee s f p n=0:=by
  intro f;induction f with
  |zero=>intro p n;unfold Ee;split<;>simp
  |succ f ih=>
   intro p n;unfold Ee;split
   ·grind
   ·split<;>simp
 unfold FN;split
 ·simp
 ·exact this _ _ _
open Classical in
def aEc:List D->Option D
 |[.slice _ _ xs]=>match Ga xs with
  |some l=>if okL l then some (.int .i64 (Im l))else none
  |none=>none
 |_=>none
def aFM{S:Gz}{ns:Id}{l:List Bs}{nl:Bool}{t:Id}{e:Option Bool}{Q:Ex->St->Prop}(m:okL l)(a:S 294=some (Ac aEa))
  (u:∀v,e=none->v.s 2= .int .i64 4->Q .ret v) (c:∀v w,e=some w->v.s 3= .int .i64 (wI w)->v.s 0= .slice nl t (l.map .str)->Q (.exit 0) v):
  ∀(n k:Nat)(w:Bool) v g,n=l.length-k->k<=l.length->Fw w (l.drop k)=e->v.s 8= .int .i64 (k:Int)->v.s 7= .int .i64 (l.length:Int)->v.s 6= .slice nl t (l.map .str)->v.s 0= .slice nl t (l.map .str)->v.s 3= .int .i64 (wI w)->A9 S ns Ot Q v g:=by
 intro n;induction n with
 |zero=>
  intro k w v g r x z j h7 h6 f p;refine Af Ot.eq_1 ?_;have:¬((k:Int)<l.length):=O
  simp only[↓C2,GD,GN,reduceIte,Qe,j,h7,this];rw[List.drop_eq_nil_of_le O]at z;exact c _ w z.symm (by simp only[↓C2,reduceIte,Qd,p]) (by simp only[↓C2,reduceIte,Qd,f])
 |succ n ih=>
  intro k w v g r x z j h7 h6 f p;refine Af Ot.eq_1 ?_;have i:k<l.length:=O
  have y:((k:Int)<l.length):=O
  have o:(0:Int)<=(k:Int):=O
  have q:(l.map D.str)[(k:Int).toNat]?=some (.str (l[k])):=by simp[i]
  have la:=m.1;have b:IntKind.i64.wrap ((k:Int)+1)=((k+1:Nat):Int):=GZ O O;have hF:aEa [.str l[k]]=some (.int .i64 (FN l[k])):=if_pos (m.2 _ (Ze i));rw[Q4 i]at z;simp only[Fw]at z;rcases NJ l[k]with h|h|h
  ·rw[if_pos h]at z;rw[h]at hF;simp only[↓C2,GA,simprocAttr,j,h7,h6,y,o,q,Ab a,hF];exact u _ z.symm rfl
  ·rw[if_neg O,h]at z;rw[h]at hF;have c1:((5:Int)=4)=False:=by simp
   simp only[↓C2,GA,simprocAttr,j,h7,h6,y,o,q,Ab a,hF,c1,b];exact ih (k+1) true _ _ O O XK rfl h7 h6 f rfl
  ·rw[if_neg O,h]at z;rw[h]at hF;have c1:((0:Int)=4)=False:=by simp
   have c2:((0:Int)=5)=False:=U
   simp only[↓C2,GA,simprocAttr,j,h7,h6,y,o,q,Ab a,hF,c1,c2,b];exact ih (k+1) w _ _ O O XK rfl h7 h6 f p
def aQQ:Kq aEc 242:=by
 obtain⟨S,g,hl⟩:=Bl (Aa aQP Ad);have a:=hl 294 _ rfl;clear hl;refine AL (S:=S) g (Aj func242:Fn Qf 242 27 aJT [.t 2]) (λds r h=>?_) (λds r h=>?_)
 ·unfold aEc at h;split at h
  ·simp
  ·cases h
 ·unfold aEc at h;split at h
  ·rename_i nl t xs;split at h
   ·rename_i l hl;obtain rfl:=E6 hl;split at h
    ·rename_i m;simp only[Qb]at h;subst h;unfold aJT Im;simp only[↓C2,GD,simprocAttr,Qy];have q:=m.1;refine aFM (nl:=nl) (t:=t) (e:=Fw false l) m a (λv u y=>?_) (λv w u y p=>?_) l.length 0 false _ _ O O rfl rfl rfl rfl rfl rfl
     ·simp only[↓C2,GA,y,u]
     ·have c1:((6:Int)<(l.length:Int))=(6<l.length):=by simp only[eq_iff_iff];omega
      have n:((5:Int)=0)=False:=U
      have o:((0:Int)=0)=True:=U
      cases w<;>simp only[wI,reduceIte,QS]at y<;>simp only[↓C2,GA,simprocAttr,u,y,p,Qy,c1,n];refine aG (λh=>?_) (λh=>?_)<;>simp only[↓C2,GA,simprocAttr,h,y,u]
    ·cases h
   ·cases h
  ·cases h
def AP(s:Bs):Int:=if 64<s.length then 5 else Im (splitC 47 s)
def eO{s:Bs}(h:s.length<=1000000):okL (splitC 47 s):=by
 have:∀(s:Bs) w,w∈splitC 47 s->w.length<=s.length:=by
  intro s;induction s with
  |nil=>intro w k;simp[splitC]at k;simp[k]
  |cons c r ih=>
   intro w k;unfold splitC at k;split at k
   ·grind
   ·grind
 have y:=CB (q:=47) s;exact⟨O,λp g=>by have:=this s p g;omega⟩
end Go.Vd
namespace Go.Proofs
open Go.Shelf
def aN:Go.Shelf.Ren:=⟨λ|146=>42|221=>95|268=>162|138=>163|143=>164|195=>234|197=>235|218=>236|219=>237|260=>286|217=>287|225=>288|224=>289|267=>290|266=>319|314=>320|n=>n,λ|9=>9|31=>23|3=>3|4=>4|0=>0|105=>303|21=>21|5=>5|46=>109|119=>368|139=>371|138=>370|146=>269|51=>268|n=>n,λ|1=>0|3=>1|4=>2|n=>n⟩
def aT:Go.Proofs.Lays.n146 Qf aN:={
 mixed:=Xa
 f138:=func163.trans (congrArg some Xa)
 f143:=func164.trans (congrArg some Xa)
 f146:=func42.trans (congrArg some Xa)
 f195:=func234.trans (congrArg some Xa)
 f197:=func235.trans (congrArg some Xa)
 f217:=func287.trans (congrArg some Xa)
 f218:=func236.trans (congrArg some Xa)
 f219:=func237.trans (congrArg some Xa)
 f221:=func95.trans (congrArg some Xa)
 f224:=func289.trans (congrArg some Xa)
 f225:=func288.trans (congrArg some Xa)
 f260:=func286.trans (congrArg some Xa)
 f266:=func319.trans (congrArg some Xa)
 f267:=func290.trans (congrArg some Xa)
 f268:=func162.trans (congrArg some Xa)
 f314:=func320.trans (congrArg some Xa)
 t0:=underlying0
 a0:=isAgg0
 z0:=sizeOf0
 v0:=zeroValue0
 t3:=underlying3
 a3:=isAgg3
 z3:=sizeOf3
 v3:=zeroValue3
 t4:=underlying4
 a4:=isAgg4
 z4:=sizeOf4
 v4:=zeroValue4
 t5:=underlying5
 a5:=isAgg5
 z5:=sizeOf5
 v5:=zeroValue5
 t9:=underlying9
 a9:=isAgg9
 z9:=sizeOf9
 v9:=zeroValue9
 t21:=underlying21
 a21:=isAgg21
 z21:=sizeOf21
 v21:=zeroValue21
 t31:=underlying23
 a31:=isAgg23
 z31:=sizeOf23
 v31:=zeroValue23
 t46:=underlying109
 a46:=isAgg109
 z46:=sizeOf109
 v46:=zeroValue109
 t51:=underlying268
 a51:=isAgg268
 z51:=sizeOf268
 v51:=zeroValue268
 t105:=underlying303
 a105:=isAgg303
 z105:=sizeOf303
 v105:=zeroValue303
 t119:=underlying368
 a119:=isAgg368
 z119:=sizeOf368
 t138:=underlying370
 a138:=isAgg370
 z138:=sizeOf370
 v138:=zeroValue370
 t139:=underlying371
 a139:=isAgg371
 z139:=sizeOf371
 v139:=zeroValue371
 t146:=underlying269
 a146:=isAgg269
 z146:=sizeOf269
 v146:=zeroValue269
 g1:=Xa
 g3:=Xa
 g4:=Xa}
end Go.Proofs
namespace Go.Vd
open Go.Proofs Go.RowKit
def aFC:Kq DJ 42:=wL aT Xa ⟨_,func42,Xa,Xa⟩
open Classical in
def aEf:List D->Option D
 |[.str s]=>if s.length<=1000000 then some (.tup [if AP s=0 then .slice false [] ((splitC 47 s).map .str)else .slice true [] [],.int .i64 (AP s)])else none
 |_=>none
def aH0{l:List Bs}{nl:Bool}{t:Id}(h:okL l):aEc [.slice nl t (l.map .str)]=some (.int .i64 (Im l)):=by
 grind [aEc,F9]
def aQ2:Kq aEf 174:=by
 obtain⟨S,w,hl⟩:=Bl (Aa aFC (Aa aQQ Ad));have u:=hl 42 _ rfl;have b:=hl 242 _ rfl;clear hl;refine AL (S:=S) w (Aj func174:Fn Qf 174 17 aKk [.t 2,.t 3]) (λds r h=>?_) (λds r h=>?_)
 ·unfold aEf at h;split at h
  ·simp
  ·cases h
 ·unfold aEf at h;split at h
  ·rename_i s;split at h
   ·rename_i i;simp only[Qb]at h;subst h;unfold aKk AP;have e:((64:Int)<(s.length:Int))=(64<s.length):=by simp only[eq_iff_iff];omega
    have k:((5:Int)=0)=False:=U
    have g:DJ [.str s,.str [47]]=some (.slice false [] ((splitC 47 s).map .str)):=if_pos i;have q:=aH0 (nl:=false) (t:=[]) (eO i);have o:((splitC 47 s).map D.str).all D.calm=true:=by simp[Qt];intros;rfl
    by_cases a:64<s.length
    ·simp only[↓C2,GA,simprocAttr,e,a,k]
    ·simp only[↓C2,GA,simprocAttr,e,a,Ab u,Ab b,g,q];refine aG (λh=>?_) (λh=>?_)<;>simp only[↓C2,GA,simprocAttr,h,a]
   ·cases h
  ·cases h
def dK:List D->Option D
 |[.str s]=>if s.length<=1000000 then some (.int .i64 (AP s))else none
 |_=>none
def lI:Kq dK 107:=by
 obtain⟨S,w,hl⟩:=Bl (Aa aQ2 Ad);have a:=hl 174 _ rfl;clear hl;refine AL (S:=S) w (Aj func107:Fn Qf 107 11 aK3 [.t 2]) (λds r h=>?_) (λds r h=>?_)
 ·unfold dK at h;split at h
  ·simp
  ·cases h
 ·unfold dK at h;split at h
  ·rename_i s;split at h
   ·rename_i i;simp only[Qb]at h;subst h;have g:aEf [.str s]=some (.tup [if AP s=0 then .slice false [] ((splitC 47 s).map .str)else .slice true [] [],.int .i64 (AP s)]):=by
     simp only[aEf,if_pos i]
    unfold aK3;simp only[↓C2,GA,simprocAttr,Ab a,g]
   ·cases h
  ·cases h
def aKZ:=y0 f161 [] []
def aKj:=y0 f54 [] []
def aJ7:=y0 f109 [] []
def aK4:=y0 f106 [] []
def aKl:=y0 f173 [] []
def aKa:=y0 f105 [] []
def BX(s t:Bs):Bool:=decide (s.take t.length=t)
def WC{s t:Bs}(h:BX s t=true):t.length<=s.length:=by
 grind [BX]
def Cs(s z:Bs):Bool:=if z=[]then decide (s≠[])else BX s z&&BX (s.drop z.length) [47]
def CJ(s z:Bs):Bool:=decide (s=z)||Cs s z
def C6(s z:Bs):Bs:=if z=[]then s else if BX s z=true then(if BX (s.drop z.length) [47]=true then(s.drop z.length).drop 1 else s.drop z.length)else []
def uU:List D->Option D
 |[.str s,.str t]=>some (.bool (BX s t))
 |_=>none
def aIP:Kq uU 105:=by
 refine AL (S:=λ_=>none) A4 (Aj func105:Fn Qf 105 18 aKa [.t 4]) (λds r h=>?_) (λds r h=>?_)
 ·unfold uU at h;split at h
  ·simp
  ·cases h
 ·unfold uU at h;split at h
  ·rename_i s t;simp only[Qb]at h;subst h;unfold aKa;have c1:((t.length:Int)<=(s.length:Int))=(t.length<=s.length):=by simp only[eq_iff_iff];omega
   have p:((0:Int)<=(t.length:Int))=True:=eq_true O;by_cases hl:t.length<=s.length
   ·simp only[↓C2,GA,simprocAttr,c1,p,hl,Qj,Qw,QB,and_self];simp[BX]
   ·simp only[↓C2,GA,simprocAttr,c1,hl];have:BX s t=false:=by rw[Bool.eq_false_iff];intro h;exact hl (WC h)
    simp[this]
  ·cases h
def aH5:List D->Option D
 |[.str s,.str t]=>some (.tup [.str (if BX s t=true then s.drop t.length else s),.bool (BX s t)])
 |_=>none
def aQ3:Kq aH5 173:=by
 obtain⟨S,w,hl⟩:=Bl (Aa aIP Ad);have a:=hl 105 _ rfl;clear hl;refine AL (S:=S) w (Aj func173:Fn Qf 173 15 aKl [.t 4,.t 5]) (λds r h=>?_) (λds r h=>?_)
 ·unfold aH5 at h;split at h
  ·simp
  ·cases h
 ·unfold aH5 at h;split at h
  ·rename_i s t;simp only[Qb]at h;subst h;unfold aKl;have c1:((t.length:Int)<=(s.length:Int))=(t.length<=s.length):=by simp only[eq_iff_iff];omega
   have p:((0:Int)<=(t.length:Int))=True:=eq_true O;have g:uU [.str s,.str t]=some (.bool (BX s t)):=rfl;cases hp:BX s t with
   |false=>simp only[↓C2,GA,simprocAttr,Ab a,g,hp]
   |true=>
    have hl:=WC hp;have e:(s.drop t.length).take (s.length-t.length)=s.drop t.length:=Q9 U;simp only[↓C2,GA,simprocAttr,Ab a,g,hp,c1,p,hl,Qj,and_self,e]
  ·cases h
def uY:List D->Option D
 |[.str s,.str t]=>some (.tup [.str (if BX s t=true then s.drop t.length else s),.bool (BX s t)])
 |_=>none
def aIW:Kq uY 106:=by
 obtain⟨S,w,hl⟩:=Bl (Aa aQ3 Ad);have a:=hl 173 _ rfl;clear hl;refine AL (S:=S) w (Aj func106:Fn Qf 106 11 aK4 [.t 4,.t 5]) (λds r h=>?_) (λds r h=>?_)
 ·unfold uY at h;split at h
  ·simp
  ·cases h
 ·unfold uY at h;split at h
  ·rename_i s t;simp only[Qb]at h;subst h;unfold aK4;have g:aH5 [.str s,.str t]=some (.tup [.str (if BX s t=true then s.drop t.length else s),.bool (BX s t)]):=rfl;simp only[↓C2,GA,simprocAttr,Ab a,g]
  ·cases h
def uT:List D->Option D
 |[.str s,.str t]=>some (.tup [.str (C6 s t),.bool (Cs s t)])
 |_=>none
def aIN:Kq uT 109:=by
 obtain⟨S,w,hl⟩:=Bl (Aa aIW Ad);have a:=hl 106 _ rfl;clear hl;refine AL (S:=S) w (Aj func109:Fn Qf 109 25 aJ7 [.t 4,.t 5]) (λds r h=>?_) (λds r h=>?_)
 ·unfold uT at h;split at h
  ·simp
  ·cases h
 ·unfold uT at h;split at h
  ·rename_i s t;simp only[Qb]at h;subst h;unfold aJ7;have g:∀s t,uY [.str s,.str t]=some (.tup [.str (if BX s t=true then s.drop t.length else s),.bool (BX s t)]):=λ_ _=>rfl
   unfold C6 Cs;by_cases j:t=[]
   ·have b:(t=[])=True:=eq_true j;simp only[↓C2,GA,simprocAttr,b]
    try simp
   ·have b:(t=[])=False:=eq_false j;cases h1:BX s t with
    |false=>simp only[↓C2,GA,simprocAttr,b,Ab a,g,h1,Za]
    |true=>
     cases h2:BX (s.drop t.length) [47]with
     |false=>simp only[↓C2,GA,simprocAttr,b,Ab a,g,h1,h2]
     |true=>simp only[↓C2,GA,simprocAttr,b,Ab a,g,h1,h2,Qh,Qk]
  ·cases h
def uV:List D->Option D
 |[.str s,.str t]=>some (.bool (Cs s t))
 |_=>none
def aIQ:Kq uV 54:=by
 obtain⟨S,w,hl⟩:=Bl (Aa aIN Ad);have a:=hl 109 _ rfl;clear hl;refine AL (S:=S) w (Aj func54:Fn Qf 54 14 aKj [.t 4]) (λds r h=>?_) (λds r h=>?_)
 ·unfold uV at h;split at h
  ·simp
  ·cases h
 ·unfold uV at h;split at h
  ·rename_i s t;simp only[Qb]at h;subst h;unfold aKj;have g:uT [.str s,.str t]=some (.tup [.str (C6 s t),.bool (Cs s t)]):=rfl;simp only[↓C2,GA,simprocAttr,Ab a,g]
  ·cases h
def uX:List D->Option D
 |[.str s,.str t]=>some (.bool (CJ s t))
 |_=>none
def aIV:Kq uX 161:=by
 obtain⟨S,w,hl⟩:=Bl (Aa aIQ Ad);have d:=hl 54 _ rfl;clear hl;refine AL (S:=S) w (Aj func161:Fn Qf 161 13 aKZ [.t 4]) (λds r h=>?_) (λds r h=>?_)
 ·unfold uX at h;split at h
  ·simp
  ·cases h
 ·unfold uX at h;split at h
  ·rename_i s t;simp only[Qb]at h;subst h;unfold aKZ;have g:uV [.str s,.str t]=some (.bool (Cs s t)):=rfl;unfold CJ;by_cases i:s=t
   ·have lb:(s=t)=True:=eq_true i;simp only[↓C2,GA,simprocAttr,lb]
    try simp
   ·have lb:(s=t)=False:=eq_false i;simp only[↓C2,GA,simprocAttr,lb,Ab d,g]
    try simp
  ·cases h
def aTD:=y0 f264 [] []
def OE:=y1 f108 4 [] []
def aK2:=y0 f108 [] [(4,OE)]
def aTi:=y0 f53 [] []
def aKV:=y0 f199 [] []
def aKg:=y0 f239 [] []
def aTA:=y0 f291 [] []
def aJS:=y0 f292 [] []
def aGt:=y1 f321 2 [] []
def aTy:=y0 f321 [] [(2,aGt)]
def OD:=y1 f168 4 [] []
def aKU:=y0 f168 [] [(4,OD)]
def aTk:=y0 f41 [] []
def OF:=y1 f94 3 [] []
def aK5:=y0 f94 [] [(3,OF)]
def OG:=y1 f93 3 [] []
def aK6:=y0 f93 [] [(3,OG)]
def aKT:=y0 f307 [] []
def OM:=y1 f254 7 [(9,[(6,2)])] []
def OL:=y1 f254 4 [] [(7,OM)]
def aLE:=y0 f254 [] [(4,OL)]
def HF(op:Int):Int:=if op=9∨op=14∨op=18 then 1 else if op=10∨op=15 then 2 else if op=11∨op=12 then 4 else if op=13∨op=16 then 8 else if op=17 then 16 else if 3<=op∧op<=8 then 32 else 0
def DX(op:Int):Bool:=decide (4<=op∧op<=18∧op≠9∧op≠14∧op≠17)
def F27:List D->Option D
 |[.int .u8 op]=>some (.int .u8 (HF op))
 |_=>none
def aU4:Kq F27 264:=by
 refine AL (S:=λ_=>none) A4 (Aj func264:Fn Qf 264 26 aTD [.t 2]) (λds r h=>?_) (λds r h=>?_)
 ·unfold F27 at h;split at h
  ·simp
  ·cases h
 ·unfold F27 at h;split at h
  ·rename_i op;simp only[Qb]at h;subst h;unfold aTD;simp only[↓C2,GD,simprocAttr]
   repeat' (first|(refine aG (λh=>?_) (λh=>?_)<;>try (exfalso;omega))|(simp only[↓C2,GA,simprocAttr,h]))
   all_goals (first|rfl|(rw[D.int.injEq];refine⟨rfl,?_⟩;unfold HF;(repeat' split)<;>first|rfl|(exfalso;omega)))
  ·cases h
def DT(c:Int):Bool:=decide (97<=c∧c<=122)||decide (48<=c∧c<=57)
def L4(s:Bs):Nat->Nat->Bool
 |0,_=>true
 |f+1,p=>if p<s.length then DT (GT s p)&&L4 s f (p+1)else true
def BM(s:Bs):Bool:=decide (1<=s.length)&&decide (s.length<=8)&&L4 s s.length 0
def aBf(s:Bs)(p:Nat)(g:p<s.length):DT ((Utf8.decode ⟨s.toArray⟩ p).1:Nat)=DT (GT s p)∧(DT (GT s p)=true->(Utf8.decode ⟨s.toArray⟩ p).2=1):=by
 have i:=P1 s p;by_cases h:GT s p<128
 ·have:Utf8.decode ⟨s.toArray⟩ p=(GT s p,1):=by
   unfold Utf8.decode;simp only[Na,Q8,h,if_true]
  rw[this];exact⟨rfl,λ_=>rfl⟩
 ·have u:DT (GT s p)=false:=by simp[DT];omega
  have y:128<=(Utf8.decode ⟨s.toArray⟩ p).1:=by
   unfold Utf8.decode;simp only[Na,Q8,h,if_false]
   (repeat' split)<;>simp_all [Utf8.runeError]<;>omega
  refine⟨?_,λe=>by rw[u]at e;cases e⟩;rw[u];simp[DT];omega
def aFT{S:Gz}{ns i:Id}{s:Bs}{Q:Ex->St->Prop}{e:Bool}(a:∀v,e=false->v.s 2= .bool false->Q .ret v)(c:∀v,e=true->Q (.exit 0) v):
  ∀(f p:Nat) v g,s.length<=p+f->L4 s f p=e->v.s 13= .itp i->v.m i 1=some (.it s p)->A9 S ns OE Q v g:=by
 intro f;induction f with
 |zero=>
  intro p v g hf z o u;refine Af OE.eq_1 ?_;have:¬(p<s.length):=O
  simp only[↓C2,GD,GN,simprocAttr,u,o,this];exact c _ z.symm
 |succ f ih=>
  intro p v g hf z o u;refine Af OE.eq_1 ?_;unfold L4 at z;by_cases y:p<s.length
  ·rw[if_pos y]at z;obtain⟨q,t⟩:=aBf s p y;cases ho:DT (GT s p)with
   |true=>
    rw[ho,ZG]at z;have w:=t ho;rw[ho]at q;have r:(97<=((Utf8.decode ⟨s.toArray⟩ p).1:Int)∧((Utf8.decode ⟨s.toArray⟩ p).1:Int)<=122)∨(48<=((Utf8.decode ⟨s.toArray⟩ p).1:Int)∧((Utf8.decode ⟨s.toArray⟩ p).1:Int)<=57):=by simpa[DT]using q
    have k:v.m.put i 1 [.it s (p+(Utf8.decode ⟨s.toArray⟩ p).2)] i 1=some (.it s (p+1)):=by rw[DY,if_pos ⟨rfl,rfl⟩,w]
    simp only[↓C2,GD,GN,simprocAttr,u,o,y]
    repeat' (first|(refine aG (λh=>?_) (λh=>?_)<;>try (exfalso;omega))|(simp only[↓C2,GD,GN,simprocAttr,h]))
    all_goals (first|exact ih _ _ _ O z o k|(exfalso;omega))
   |false=>
    rw[ho,Za]at z;rw[ho]at q;have r:¬((97<=((Utf8.decode ⟨s.toArray⟩ p).1:Int)∧((Utf8.decode ⟨s.toArray⟩ p).1:Int)<=122)∨(48<=((Utf8.decode ⟨s.toArray⟩ p).1:Int)∧((Utf8.decode ⟨s.toArray⟩ p).1:Int)<=57)):=by
     grind [DT]
    simp only[↓C2,GD,GN,simprocAttr,u,o,y]
    repeat' (first|(refine aG (λh=>?_) (λh=>?_)<;>try (exfalso;omega))|(simp only[↓C2,GD,GN,simprocAttr,h]))
    all_goals (first|exact a _ z.symm rfl|(exfalso;omega))
  ·rw[if_neg y]at z;simp only[↓C2,GD,GN,simprocAttr,u,o,y];exact c _ z.symm
def aIg:List D->Option D
 |[.str s]=>some (.bool (BM s))
 |_=>none
def aRi:Kq aIg 108:=by
 refine AL (S:=λ_=>none) A4 (Aj func108:Fn Qf 108 31 aK2 [.t 2]) (λds r h=>?_) (λds r h=>?_)
 ·unfold aIg at h;split at h
  ·simp
  ·cases h
 ·unfold aIg at h;split at h
  ·rename_i s;simp only[Qb]at h;subst h;unfold aK2;unfold BM;have c1:((8:Int)<(s.length:Int))=(8<s.length):=by simp only[eq_iff_iff];omega
   by_cases f:s=[]
   ·subst f;simp only[↓C2,GA,simprocAttr]
    try simp
   ·have m:(s=[])=False:=eq_false f;have hl:1<=s.length:=by cases s with|nil=>exact absurd rfl f|cons _ _=>simp
    by_cases o:8<s.length
    ·simp only[↓C2,GA,simprocAttr,m,c1,o];simp;omega
    ·simp only[↓C2,GD,GN,simprocAttr,m,c1,o];have j:(decide (1<=s.length)&&decide (s.length<=8)&&L4 s s.length 0)=L4 s s.length 0:=by simp;omega
     rw[j];refine aFT (e:=L4 s s.length 0) (λv u y=>?_) (λv u=>?_) s.length 0 _ _ O rfl rfl Ya
     ·simp only[↓C2,GA,u,y]
     ·simp only[↓C2,GA,reduceIte,Qe,u]
  ·cases h
theorem Ah{m:GB}{i z:Id}{o o':Nat}{ds:List D}:m.put i o ds z o'=if z=i∧o<=o'∧o'<o+ds.length then ds[o'-o]? else m z o':=rfl
def Au{m:GB}{i:Id}{o:Nat}:Ag m i o 0=some []:=rfl
def Av{m:GB}{i:Id}{o n:Nat}:Ag m i o (n+1)=(m i o).bind λd=>(Ag m i (o+1) n).map (d::·):=by
 show(match m i o with|some d=>_|none=>none)=_;cases m i o<;>rfl
def Bm{s:Nat->D}{m:GB}{k:Option Nat}{a:Nat}:CR [.cell k a] s m=Wr m k (s a):=by
 simp only[CR,Hu,RV.of];cases Wr m k (s a)<;>rfl
def AU{m:GB}{n:Nat}{i:Id}{o:Nat}:Wr m (some n) (.ptr i o)=(Ag m i o n).map .agg:=rfl
def B4(k:Int)(name:Bs)(n:Int):Int:=
 if k=1 then(if n=0∧AP name=0 then 0 else 2)else if k=2 then(if 1<=n∧n<=30∧AP name=0 then 0 else 2)else if k=3 then(if n=0∧BM name=true then 0 else 2)
 else if k=4∨k=5 then(if n=0∧name=[]then 0 else 2)else 22
def F98:List D->Option D
 |[.agg [.int .u8 k,.str name,.int .i64 n]]=>if name.length<=1000000 then some (.int .i64 (B4 k name n))else none
 |_=>none
def aFB:Kq F98 53:=by
 obtain⟨S,w,hl⟩:=Bl (Aa lI (Aa aRi Ad));have i:=hl 107 _ rfl;have c:=hl 108 _ rfl;clear hl;refine AL (S:=S) w (Aj func53:Fn Qf 53 53 aTi [.t 2]) (λds r h=>?_) (λds r h=>?_)
 ·unfold F98 at h;split at h
  ·simp
  ·cases h
 ·unfold F98 at h;split at h
  ·rename_i k name n;split at h
   ·rename_i o;simp only[Qb]at h;subst h;unfold aTi;have a:dK [.str name]=some (.int .i64 (AP name)):=if_pos o;have d:aIg [.str name]=some (.bool (BM name)):=rfl;unfold B4;generalize AP name=e at *;generalize BM name=b at *;simp only[↓C2,GD,Hp,simprocAttr,Ah,Qx,Qw,Qh,Qk,Qm,Qg,QM,and_self]
    repeat' (first|(refine aG (λh=>?_) (λh=>?_)<;>try (exfalso;omega))|(simp only[↓C2,GO,simprocAttr,h,Ah,Ab i,Ab c,a,d]))
    all_goals (first|rfl|(rw[D.int.injEq];refine⟨rfl,?_⟩;(repeat' split)<;>first|rfl|(exfalso;simp_all;done)|(exfalso;simp_all;omega)))
   ·cases h
  ·cases h
def aEj:List D->Option D
 |[.str s]=>if s.length<=1000000 then some (.bool (BM s))else none
 |_=>none
def aRe:Kq aEj 199:=by
 obtain⟨S,w,hl⟩:=Bl (Aa aFB Ad);have a:=hl 53 _ rfl;clear hl;refine AL (S:=S) w (Aj func199:Fn Qf 199 7 aKV [.t 2]) (λds r h=>?_) (λds r h=>?_)
 ·unfold aEj at h;split at h
  ·simp
  ·cases h
 ·unfold aEj at h;split at h
  ·rename_i s;split at h
   ·rename_i o;simp only[Qb]at h;subst h;unfold aKV;have g:F98 [.agg [.int .u8 3,.str s,.int .i64 0]]=some (.int .i64 (B4 3 s 0)):=if_pos o;have e:B4 3 s 0=if BM s=true then 0 else 2:=by simp[B4]
    simp only[↓C2,GA,simprocAttr,Fb,Qz,Qu,QE,QB,Zd,Q_,and_self,Cf,Ab a,g,e,Qh,Qk,Qm,and_self];cases BM s<;>simp
   ·cases h
  ·cases h
def Fx(m:GB):List D->Option D
 |[]=>some .junk
 |[.ptr i 0]=>m i 0
 |_=>none
def aGC:List D->List Loc
 |[.ptr i 0]=>[(i,0)]
 |_=>[]
theorem PW{m m':GB}{caps:List D}(h:∀l∈aGC caps,m l.1 l.2=m' l.1 l.2):Fx m caps=Fx m' caps:=by
 unfold Fx;split
 ·rfl
 ·simp_all [aGC]
 ·rfl
def It(F:D->D->Option D):G8 where
 rd:=λds _=>aGC ds.tail
 ex:=λds m _=>match ds with
  |x::caps=>(Fx m caps).bind λc=>(F c x).map λd=>(d,[])
  |[]=>none
def Fl:List (Option D)->Option (List Bool)
 |[]=>some []
 |some (.bool b)::r=>(Fl r).map (b::·)
 |_=>none
def Bh(l:List Bool):Int:=match l.findIdx? id with
 |some k=>k
 |none=>-1
def Gl(l:List Bool):decide (0<=Bh l)=l.any id:=by
 grind [Bh]
def mI:Option Nat->D->Bool
 |none,.agg _=>false
 |none,_=>true
 |some n,.agg cs=>cs.length==n
 |some _,_=>false
def fnR(ds:List D):List Loc:=match ds with
 |[_,.fn _ caps]=>aGC caps
 |_=>[]
def Fu(g:FuncId)(k:Option Nat)(F:D->D->Option D):G8 where
 rd:=λds _=>fnR ds
 ex:=λds m _=>match ds with
  |[.slice _ _ xs,.fn g' caps]=>if g'=g∧xs.length<=1000000∧xs.all (mI k)=true then(Fx m caps).bind λc=>(Fl (xs.map (F c))).map λbs=>(.int .i64 (Bh bs),[])else none
  |_=>none
def dQ(g:FuncId)(k:Option Nat)(F:D->D->Option D):G8 where
 rd:=λds _=>fnR ds
 ex:=λds m _=>match ds with
  |[.slice _ _ xs,.fn g' caps]=>if g'=g∧xs.length<=1000000∧xs.all (mI k)=true then(Fx m caps).bind λc=>(Fl (xs.map (F c))).map λbs=>(.bool (bs.any id),[])else none
  |_=>none
def aGo(sz:Nat)(k:Option Nat):DC:=(.seq (.row [⟨some 9,.bin .lss (.t 8) (.t 7),[],none⟩]) (.seq (.cond (.t 9) .skip (.exit 0)) (.seq (.block 1 (.seq (.row [⟨some 10,.mv (.t 8),[],none⟩,⟨some 5,.mv (.t 10),[],none⟩]) (.seq (.row [⟨some 11,.mv (.t 1),[],none⟩,⟨some 12,.mv (.t 0),[],none⟩,⟨some 13,.mv (.t 5),[],none⟩,⟨some 14,.iaddr sz (.t 12) (.t 13),[],none⟩,⟨some 15,.load k (.t 14),[],none⟩,⟨some 16,.call (.t 11) [(.t 15)],[],none⟩]) (.cond (.t 16) (.seq (.row [⟨some 17,.mv (.t 5),[],none⟩,⟨some 4,.mv (.t 17),[],none⟩]) .ret) .skip)))) (.row [⟨some 18,.bin .add (.t 8) (.c (.int .i64 1)),[],none⟩,⟨some 8,.mv (.t 18),[],none⟩]))))
def dcI(sz:Nat)(k:Option Nat):DC:=(.seq (.row [⟨some 4,.mv (.c (.int .i64 0)),[],none⟩]) (.seq (.seq (.row [⟨some 6,.mv (.t 0),[],none⟩,⟨some 7,.len false (.t 6),[],none⟩,⟨some 8,.mv (.c (.int .i64 0)),[],none⟩]) (.block 0 (.loop (aGo sz k)))) (.seq (.row [⟨some 4,.mv (.c (.int .i64 (-1))),[],none⟩]) .ret)))
def aGp(f:FuncId):DC:=(.seq (.row [⟨some 4,.mv (.c (.bool false)),[],none⟩]) (.seq (.row [⟨some 5,.mv (.t 0),[],none⟩,⟨some 6,.mv (.t 1),[],none⟩,⟨some 7,.call (.c (.fn f [])) [(.t 5),(.t 6)],[],none⟩,⟨some 8,.bin .geq (.t 7) (.c (.int .i64 0)),[],none⟩,⟨some 4,.mv (.t 8),[],none⟩]) .ret))
def aMM(sz:Nat):Option Nat->Prop
 |none=>sz=1
 |some n=>sz=n
def aOo{sz:Nat}{k:Option Nat}(h:aMM sz k){x:D}(q:mI k x=true):x.cells.length=sz:=by
 cases k with
 |none=>cases x<;>first|(cases q;done)|exact h.symm
 |some n=>cases x<;>first|(cases q;done)|(simp only[mI,beq_iff_eq]at q;exact q.trans h.symm)
def aA3{m:GB}{k:Option Nat}{x:D}{K:D->GF->Prop}{t:Tag (m,K)}(q:mI k x=true):Pt k (.eptr x.cells) m K t=K x []:=by
 cases k with
 |none=>cases x<;>first|(cases q;done)|(simp only[Ps,D.cells,QP,A1])
 |some n=>
  cases x<;>first|(cases q;done)|skip
  rename_i cs;simp only[mI,beq_iff_eq]at q;subst q;simp only[NM,D.cells,QA,S5,Zp]
def Mw:∀{l:List (Option D)} {bs:List Bool},Fl l=some bs->l=bs.map λb=>some (.bool b)
 |[],bs,h=>by simp only[Fl,Qb]at h;subst h;rfl
 |x::r,bs,h=>by
  unfold Fl at h;split at h
  ·rename_i e;cases e
  ·rename_i b w e;cases e;rw[Ql]at h;obtain⟨a,u,rfl⟩:=h;rw[Mw u];rfl
  ·cases h
def aR8{S:Gz}{ns:Id}{sz:Nat}{k:Option Nat}{g:FuncId}{F:D->D->Option D}{xs caps:List D}{c:D}{bs:List Bool}{nl:Bool}{t:Id}{m:GB}{Q:Ex->St->Prop}(ka:aMM sz k)(hg:S g=some (It F))(w:xs.length<=1000000)(x:xs.all (mI k)=true)
  (qa:Fx m caps=some c) (ta:xs.map (F c)=bs.map λb=>some (.bool b))
  (pa:∀(j:Nat) v,v.m=m->bs.findIdx? id=some j->v.s 4= .int .i64 (j:Int)->Q .ret v) (fa:∀v,v.m=m->bs.findIdx? id=none->Q (.exit 0) v):
  ∀(n j:Nat) v tg,n=xs.length-j->j<=xs.length->(∀i,i<j->bs[i]?=some false)->v.m=m->v.s 8= .int .i64 (j:Int)->v.s 7= .int .i64 (xs.length:Int)->v.s 0= .slice nl t xs->v.s 1= .fn g caps->A9 S ns (aGo sz k) Q v tg:=by
 intro n;have r:bs.length=xs.length:=by simpa using (congrArg ZQ ta).symm
 induction n with
 |zero=>
  intro j v tg a p ja hm h8 h7 o u;refine Af (aGo.eq_1 sz k) ?_;have:¬((j:Int)<xs.length):=O
  simp only[↓C2,GD,GN,reduceIte,Qe,h8,h7,this];refine fa _ hm (Zl.2 λb wa=>?_);obtain⟨i,hi,rfl⟩:=QW wa;have:=ja i O;rw[Qc hi]at this;simpa using QF this
 |succ n ih=>
  intro j v tg a p ja hm h8 h7 o u;refine Af (aGo.eq_1 sz k) ?_;have ra:j<xs.length:=O
  have y:((j:Int)<xs.length):=O
  have oa:=nJ (j:=j);have q:xs[j]?=some xs[j]:=Qc ra;have f:mI k xs[j]=true:=Qt.1 x _ (Ze ra);have la:=aOo ka f;have hw:=wJ (j:=j) O;obtain⟨ma,ia,ea⟩:=v;simp only at hm h8 h7 o u;subst hm;have hF:F c xs[j]=some (.bool (bs[j]' O)):=by
   have e:=congrArg (·[j]?) ta;simp only[QN,q,QO,Qc (show j<bs.length by omega)]at e;exact QF e
  have z:∀fr,(It F).ex (xs[j]::caps) ia fr=some (.bool (bs[j]' O),[]):=by
   grind [It]
  simp only[↓C2,GD,GN,simprocAttr,h8,h7,o,u,y,oa,Qj,q,la,aA3 f,AE hg,z];cases hbj:bs[j]' O with
  |true=>
   simp only[↓C2,GD,simprocAttr];refine pa j _ rfl ?_ rfl;rw[QT];refine⟨O,by simp[hbj],λi hi=>?_⟩;have:=ja i hi;rw[Qc O]at this;simp[QF this]
  |false=>
   simp only[↓C2,GD,simprocAttr,h8,hw];refine ih (j+1) _ _ O O (λi hi=>?_) rfl rfl h7 o u;rcases Nat.lt_or_eq_of_le (Nat.le_of_lt_succ hi)with hi|rfl
   ·exact ja i hi
   ·simp_all
def SH{ds:List D}{m m':GB}(h:∀l∈fnR ds,m l.1 l.2=m' l.1 l.2){x:D}{g:FuncId}{caps:List D}(e:ds=[x,.fn g caps]):Fx m caps=Fx m' caps:=by
 subst e;exact PW h
def M9{P:Program}{f g:FuncId}{sz:Nat}{k:Option Nat}{F:D->D->Option D}{N:Nat}(b:2<=N)(s:Fn P f N (dcI sz k) [.t 4])(ka:aMM sz k)(hg:(It F).ok P g):(Fu g k F).ok P f:=by
 have hS:Gz.ok P (Aq [(g,It F)]):=Aa hg Ad;have p:Aq [(g,It F)] g=some (It F):=by simp[Aq]
 generalize Aq [(g,It F)]=S at hS p;refine MX hS s (λds m m' fr h=>?_) (λds m fr r u z _=>?_)
 ·simp only[Fu]at h ⊢;split
  ·rename_i nl t xs e caps;rw[SH h rfl]
  ·rfl
 ·simp only[Fu]at z;split at z
  ·rename_i nl t xs e caps;split at z
   ·rename_i hc;obtain⟨rfl,w,n⟩:=hc;rw[QC]at z;obtain⟨c,qa,z⟩:=z;rw[Ql]at z;obtain⟨bs,ta,z⟩:=z;simp only[Qs]at z;obtain⟨rfl,rfl⟩:=z;refine⟨b,?_⟩;unfold dcI;simp only[↓C2,GD,simprocAttr];refine aR8 (xs:=xs) (caps:=caps) (c:=c) (bs:=bs) (nl:=nl) (t:=t) (m:=m) ka p w n qa (Mw ta) (λj v a q y=>?_) (λv a q=>?_) xs.length 0 _ _ O O U rfl rfl rfl rfl rfl
    ·simp only[↓C2,GD,GN,y,Bh,q,a];exact λi o x h=>h
    ·simp only[↓C2,GD,GN,reduceIte,Qe,Bh,q,a];exact λi o x h=>h
   ·cases z
  ·cases z
def mY{P:Program}{f h g:FuncId}{k:Option Nat}{F:D->D->Option D}{N:Nat}(b:2<=N)(s:Fn P f N (aGp h) [.t 4])(hi:(Fu g k F).ok P h):(dQ g k F).ok P f:=by
 have w:Gz.ok P (Aq [(h,Fu g k F)]):=Aa hi Ad;have y:Aq [(h,Fu g k F)] h=some (Fu g k F):=by simp[Aq]
 generalize Aq [(h,Fu g k F)]=S at w y;refine MX w s (λds m m' fr h=>?_) (λds m fr r u z _=>?_)
 ·simp only[dQ]at h ⊢;split
  ·rename_i nl t xs a caps;rw[SH h rfl]
  ·rfl
 ·simp only[dQ]at z;split at z
  ·rename_i nl t xs a caps;split at z
   ·rename_i v;rw[QC]at z;obtain⟨c,j,z⟩:=z;rw[Ql]at z;obtain⟨bs,ta,z⟩:=z;simp only[Qs]at z;obtain⟨rfl,rfl⟩:=z;refine⟨b,?_⟩;have n:∀fr,(Fu g k F).ex [.slice nl t xs,.fn a caps] m fr=some (.int .i64 (Bh bs),[]):=by
     grind [Fu]
    unfold aGp;simp only[↓C2,GD,GN,simprocAttr,AE y,n];exact⟨by rw[←Gl],λi o x h=>h⟩
   ·cases z
  ·cases z
def aK1:=y0 f248 [] []
def aK0:=y0 f249 [] []
def aLM:=y0 f187 [] []
def aLL:=y0 f188 [] []
def Nn{S:Gz}{P:Program}{f:FuncId}{N:Nat}{g:DC}{rs:List RV}{F:D->D->Option D}(w:Gz.ok P S)(s:Fn P f N g rs)
  (b:∀x caps m fr c d,Fx m caps=some c->F c x=some d->(∀k i o,(k::fr)<:+i->m i o=none)->caps.length<=1->(caps.length+1<=N)∧g.wp S fr (DW rs λt m'=>t=d∧∀i o y,m i o=some y->m' i o=some y) ⟨BE (x::caps),m,0⟩):(It F).ok P f:=by
 refine MX w s (λds m m' fr h=>?_) (λds m fr r u z n=>?_)
 ·grind [It,PW]
 ·simp only[It]at z;split at z
  ·rename_i x caps;rw[QC]at z;obtain⟨c,j,z⟩:=z;rw[Ql]at z;obtain⟨d,p,z⟩:=z;simp only[Qs]at z;obtain⟨rfl,rfl⟩:=z;have hl:caps.length<=1:=by
    unfold Fx at j;split at j
    ·simp
    ·simp
    ·cases j
   obtain⟨q,h2⟩:=b x caps m fr c d j p n hl;exact⟨q,h2⟩
  ·cases z
def PV{m:GB}{caps:List D}{p:Bs}(h:Fx m caps=some (.str p)):∃i,caps=[.ptr i 0]∧m i 0=some (.str p):=by
 unfold Fx at h;split at h
 ·cases h
 ·exact⟨_,rfl,h⟩
 ·cases h
def uO:D->D->Option D
 | .str p,.agg [.str q,.int .u8 _]=>some (.bool (decide (q=p)))
 |_,_=>none
def aD2:D->D->Option D
 | .str p,.agg [.str q,.int .i64 _,.bool _]=>some (.bool (decide (q=p)))
 |_,_=>none
def uR:D->D->Option D
 | .str p,.str q=>some (.bool (CJ p q||CJ q p))
 |_,_=>none
def aOv:(It uO).ok Qf 292:=by
 refine Nn (S:=λ_=>none) A4 (Aj func292:Fn Qf 292 9 aJS [.t 3]) (λx caps m fr c d j g n hl=>⟨O,?_⟩);unfold uO at g;split at g
 ·rename_i p q k;simp only[Qb]at g;subst g;obtain⟨i,rfl,u⟩:=PV j;have hi:i≠0::fr:=by rintro rfl;have:=n 0 (0::fr) 0 (Zq _);rw[u]at this;cases this
  unfold aJS;simp only[↓C2,GA,simprocAttr,u,hi,Ah,Qx,Qw,Qh,Qk,Qm,Qg,and_self];intro i o y h;split
  ·grind
  ·exact h
 ·cases g
def aOz:(It aD2).ok Qf 248:=by
 refine Nn (S:=λ_=>none) A4 (Aj func248:Fn Qf 248 8 aK1 [.t 3]) (λx caps m fr c d j g n hl=>⟨O,?_⟩);unfold aD2 at g;split at g
 ·rename_i p q k b;simp only[Qb]at g;subst g;obtain⟨i,rfl,u⟩:=PV j;have hi:i≠0::fr:=by rintro rfl;have:=n 0 (0::fr) 0 (Zq _);rw[u]at this;cases this
  unfold aK1;simp only[↓C2,GA,simprocAttr,u,hi,Ah,Qx,Qw,Qh,Qk,Qm,Qg,and_self];intro i o y h;split
  ·grind
  ·exact h
 ·cases g
def aOy:(It uR).ok Qf 249:=by
 obtain⟨S,w,hl⟩:=Bl (Aa aIV Ad);have a:=hl 161 _ rfl;clear hl;refine Nn (S:=S) w (Aj func249:Fn Qf 249 12 aK0 [.t 3]) (λx caps m fr c d j g n hl=>⟨O,?_⟩);unfold uR at g;split at g
 ·rename_i p q;simp only[Qb]at g;subst g;obtain⟨i,rfl,u⟩:=PV j;have k:∀p q,uX [.str p,.str q]=some (.bool (CJ p q)):=λ_ _=>rfl
  unfold aK0;cases h1:CJ p q with
  |false=>simp only[↓C2,GA,simprocAttr,u,Ab a,k,h1];simp
  |true=>simp only[↓C2,GA,simprocAttr,u,Ab a,k,h1];simp
 ·cases g
def aTb:Fn Qf 247 19 (dcI 3 (some 3)) [.t 4]:=⟨f247,_,func247,rfl,Xa,rfl,Xa,Xa⟩
def aJy:Fn Qf 181 19 (dcI 1 none) [.t 4]:=⟨f181,_,func181,rfl,Xa,rfl,Xa,Xa⟩
def aS8:Fn Qf 293 19 (dcI 1 none) [.t 4]:=⟨f293,_,func293,rfl,Xa,rfl,Xa,Xa⟩
def aJC:Fn Qf 118 9 (aGp 181) [.t 4]:=⟨f118,_,func118,rfl,Xa,rfl,Xa,Xa⟩
def aS9:Fn Qf 240 9 (aGp 293) [.t 4]:=⟨f240,_,func240,rfl,Xa,rfl,Xa,Xa⟩
def aOb:(Fu 292 (some 2) uO).ok Qf 321:=M9 O (Aj func321:Fn Qf 321 19 aTy [.t 4]) rfl aOv
def aTK:(dQ 292 (some 2) uO).ok Qf 291:=mY O (Aj func291:Fn Qf 291 9 aTA [.t 4]) aOb
def aOf:(Fu 248 (some 3) aD2).ok Qf 247:=M9 O aTb rfl aOz
def aOe:(Fu 249 none uR).ok Qf 181:=M9 O aJy rfl aOy
def aTM:(dQ 249 none uR).ok Qf 118:=mY O aJC aOe
abbrev Rl:=Bs×Int
def rlD(r:Rl):D:= .agg [.str r.1,.int .u8 r.2]
def Ar(l:List Rl):List D:=l.map rlD
def rlT:D->Rl
 | .agg [.str q,.int .u8 k]=>(q,k)
 |_=>([],0)
def Bk(xs:List D):List Rl:=xs.map rlT
theorem A0(l:List Rl):Bk (Ar l)=l:=by
 simp only[Bk,Ar,QJ]
 conv=>rhs;rw[←ZB l]
 exact QD λr _=>rfl
def CL(l:List Rl)(j:Nat):Rl:=l.getD j ([],0)
theorem AZ(l:List Rl):(Ar l).length=l.length:=Qy ..
def Oj{l:List Rl}{j:Nat}(h:j<l.length):(Ar l)[j]?=some (rlD (CL l j)):=by
 grind [Ar,CL]
def IK(l:List Rl)(j:Nat):(Ar l).take j=Ar (l.take j):=(ZJ ..).symm
def xG(l:List Rl):(Ar l).all (mI (some 2))=true:=by
 rw[Qt];intro x q;obtain⟨r,_,rfl⟩:=QZ.1 q;rfl
def Sf(l:List Rl):aF (Ar l) 2=2:=XF
def vV(l:List Rl)(q:Bs):Bool:=l.any λr=>decide (r.1=q)
def Hw(r:Rl)(l:List Rl):Int:=if r.1≠[]∧AP r.1≠0 then AP r.1 else if 63<r.2 then 2 else if vV l r.1=true then 20 else 0
def DR(l:List Rl):Nat->Nat->Int
 |0,_=>0
 |f+1,j=>if j<l.length then(if Hw (CL l j) (l.take j)≠0 then Hw (CL l j) (l.take j)else DR l f (j+1))else 0
def B3(l:List Rl):Int:=if 4<l.length then 24 else DR l l.length 0
def Cj(l:List Rl):Prop:=∀r∈l,r.1.length<=1000000
def VS{l:List Rl}(h:Cj l){j:Nat}(u:j<l.length):(CL l j).1.length<=1000000:=by
 have:CL l j=l[j]:=by simp[CL,Qc u]
 rw[this];exact h _ (Ze u)
def Di(bs:List Bool):Fl (bs.map λb=>some (.bool b))=some bs:=by
 induction bs with
 |nil=>rfl
 |cons b r ih=>simp only[Q0,Fl,ih,QO]
def aCc{l:List Rl}{nl:Bool}{t:Id}(hl:l.length<=1000000){q:Bs}(m:GB)(fr i:Id)(u:m i 0=some (.str q)):
  (dQ 292 (some 2) uO).ex [.slice nl t (Ar l),.fn 292 [.ptr i 0]] m fr=some (.bool (vV l q),[]):=by
 have e:(Ar l).map (uO (.str q))=(l.map λr=>decide (r.1=q)).map λb=>some (.bool b):=by
  simp only[Ar,QJ];exact QD λr _=>rfl
 simp only[dQ,AZ,hl,xG,and_self,if_true,Fx,u,Qi,e,Di,QO];simp only[vV,ZN];rfl
open Classical in
def aEe:List D->Option D
 |[.agg [.str q,.int .u8 k],.slice _ _ xs]=>if xs=Ar (Bk xs)∧xs.length<=1000000∧q.length<=1000000 then some (.int .i64 (Hw (q,k) (Bk xs)))else none
 |_=>none
def aQZ:Kq aEe 239:=by
 obtain⟨S,g,hl⟩:=Bl (Aa lI (Aa aTK Ad));have c:=hl 107 _ rfl;have b:=hl 291 _ rfl;clear hl;refine AL (S:=S) g (Aj func239:Fn Qf 239 21 aKg [.t 4]) (λds r h=>?_) (λds r h=>?_)
 ·unfold aEe at h;split at h
  ·simp
  ·cases h
 ·unfold aEe at h;split at h
  ·rename_i q k nl t xs;split at h
   ·rename_i o;obtain⟨p,w,v⟩:=o;simp only[Qb]at h;subst h;generalize Bk xs=l at p;subst p;rw[AZ]at w;have a:dK [.str q]=some (.int .i64 (AP q)):=if_pos v;unfold aKg Hw;generalize AP q=e at *;simp only[↓C2,GD,Hp,simprocAttr,Ah,Qx,Qw,Qh,Qk,Qm,Qg,and_self]
    repeat' (first|(refine aG (λh=>?_) (λh=>?_)<;>try (exfalso;omega))|(simp only[↓C2,GO,simprocAttr,h,Ah,Ab c,a,AE b,aCc (q:=q) w]))
    all_goals (first|rfl|(rw[D.int.injEq];refine⟨rfl,?_⟩;(repeat' split)<;>first|rfl|(exfalso;simp_all;done)|(exfalso;simp_all;omega)))
   ·cases h
  ·cases h
open Classical in
def aH4{q:Bs}{k:Int}{nl:Bool}{t:Id}{l:List Rl}(hl:l.length<=1000000)(v:q.length<=1000000):aEe [.agg [.str q,.int .u8 k],.slice nl t (Ar l)]=some (.int .i64 (Hw (q,k) l)):=by
 have h:Ar l=Ar (Bk (Ar l))∧(Ar l).length<=1000000∧q.length<=1000000:=⟨by rw[A0],by rw[AZ];exact hl,v⟩;show(if _ then _ else _)=_;rw[if_pos h,A0]
def aFS{S:Gz}{ns:Id}{l:List Rl}{nl:Bool}{t:Id}{Q:Ex->St->Prop}{e:Int}(a:S 239=some (Ac aEe))(m:l.length<=4)(hp:Cj l)
  (pa:∀v,e≠0->v.s 2= .int .i64 e->Q .ret v) (c:∀v,e=0->Q (.exit 0) v):
  ∀(f j:Nat) v g,l.length=j+f->DR l f j=e->v.s 0= .slice nl t (Ar l)->v.s 9= .slice nl t (Ar l)->v.s 10= .int .i64 (l.length:Int)->v.s 11= .int .i64 (j:Int)->A9 S ns OD Q v g:=by
 intro f;induction f with
 |zero=>
  intro j v g hf z o h9 x qa;refine Af OD.eq_1 ?_;have:¬((j:Int)<l.length):=O
  simp only[↓C2,GD,GN,reduceIte,Qe,x,qa,this];exact c _ z.symm
 |succ f ih=>
  intro j v g hf z o h9 x qa;refine Af OD.eq_1 ?_;unfold DR at z;have u:j<l.length:=O
  rw[if_pos u]at z;have y:((j:Int)<l.length):=O
  have w:=nJ (j:=j);have i:((j:Int)<=l.length):=O
  have p:=wJ (j:=j) O;have ka:=Oj u;have hq:=VS hp u;generalize hr:CL l j=r at z ka hq;obtain⟨q,k⟩:=r;have b:(Ar l)[j]?=some (.agg [.str q,.int .u8 k]):=ka;have hF:=aH4 (nl:=nl) (t:=[]) (l:=l.take j) (q:=q) (k:=k) Xc hq;generalize Hw (q,k) (l.take j)=e' at z hF;obtain⟨ma,ia,n⟩:=v;simp only at o h9 x qa;simp only[↓C2,GO,simprocAttr,o,h9,x,qa,y,w,i,Qj,b,AZ,Sf,IK,Ab a,hF,Ah,Au,Av,Qi,Qu,Qz,Qo,QB];refine AY ?_;simp only[↓C2,GD,Hp,simprocAttr,IK,QB];refine aG (λh=>?_) (λh=>?_)
  ·rw[if_neg Xp]at z;simp only[↓C2,GD,Hp,simprocAttr,qa,IK,QB,p];exact ih (j+1) _ _ O z o h9 x rfl
  ·rw[if_pos h]at z;simp only[↓C2,GD,Hp,simprocAttr,IK,QB];exact pa _ (z▸h) (by rw[←z];rfl)
open Classical in
def uS:List D->Option D
 |[.slice _ _ xs]=>if xs=Ar (Bk xs)∧xs.length<=1000000∧Cj (Bk xs)then some (.int .i64 (B3 (Bk xs)))else none
 |_=>none
open Classical in
def U_{nl:Bool}{t:Id}{l:List Rl}(hl:l.length<=1000000)(g:Cj l):uS [.slice nl t (Ar l)]=some (.int .i64 (B3 l)):=by
 have h:Ar l=Ar (Bk (Ar l))∧(Ar l).length<=1000000∧Cj (Bk (Ar l)):=by rw[A0,AZ];exact⟨rfl,hl,g⟩
 show(if _ then _ else _)=_;rw[if_pos h,A0]
open Classical in
theorem dH{ds:List D}{r:D}(h:uS ds=some r):∃nl t l,ds=[.slice nl t (Ar l)]∧l.length<=1000000∧Cj l∧r= .int .i64 (B3 l):=by
 unfold uS at h;split at h
 ·rename_i nl t xs;split at h
  ·rename_i o;obtain⟨u,y,p⟩:=o;simp only[Qb]at h;subst h;refine⟨nl,t,Bk xs,by rw[←u],?_,p,rfl⟩;rw[u,AZ]at y;exact y
  ·cases h
 ·cases h
def V0:Kq uS 168:=by
 obtain⟨S,o,hl⟩:=Bl (Aa aQZ Ad);have a:=hl 239 _ rfl;clear hl;refine AL (S:=S) o (Aj func168:Fn Qf 168 25 aKU [.t 2]) (λds r h=>?_) (λds r h=>?_)
 ·grind [dH]
 ·obtain⟨nl,t,l,rfl,hl,g,rfl⟩:=dH h;unfold aKU B3;by_cases n:4<l.length
  ·have w:((4:Int)<l.length):=by omega
   simp only[↓C2,GA,simprocAttr,AZ,w,n]
  ·have w:¬((4:Int)<l.length):=by omega
   simp only[↓C2,GD,GN,simprocAttr,AZ,w];refine aFS (l:=l) (nl:=nl) (t:=t) (e:=DR l l.length 0) a O g (λv u y=>?_) (λv u=>?_) l.length 0 _ _ O rfl rfl rfl rfl rfl
   ·simp only[↓C2,GA,y];rw[if_neg n]
   ·simp only[↓C2,GA,reduceIte,Qe,u];rw[if_neg n]
def Vk{k:IntKind}{a b:Int}:AO .andNot (.int k a) (.int k b)=some (.int k (bits .andNot k a b)):=Xo
def Ui(a c:Nat):Bool:=Nat.beq (Zr c (255-a)) 0
def aUL{x:Nat}(h:x<256):IntKind.u8.wrap (x:Int)=x:=by
 simp only[IntKind.wrap,IntKind.signed,IntKind.bits,Za,QS,if_false];omega
def P3{a c:Nat}(j:a<256)(o:c<256):bits .andNot .u8 (c:Int) (a:Int)=((Zr c (255-a):Nat):Int):=by
 have u:(BitVec.ofInt 8 (c:Int)).toNat=c:=by rw[BitVec.toNat_ofInt];omega
 have y:(BitVec.ofInt 8 (a:Int)).toNat=a:=by rw[BitVec.toNat_ofInt];omega
 have p:(BitVec.ofInt 8 (c:Int)&&& ~~~ BitVec.ofInt 8 (a:Int)).toNat=Zr c (255-a):=by
  rw[BitVec.toNat_and,BitVec.toNat_not,u,y];rfl
 have n:Zr c (255-a)<=c:=Nat.and_le_left;show IntKind.u8.wrap ((BitVec.ofInt 8 (c:Int)&&& ~~~ BitVec.ofInt 8 (a:Int)).toNat:Int)=_;rw[p];generalize Zr c (255-a)=x at n;exact aUL O
structure RI (fr r:Id) (m0 m:GB) (l:List Bs) (j:Nat):Prop where
 row:∀i,i<l.length->m r i=some (.str (if i<j then l.getD i []else []))
 out:∀i o,¬fr<:+i->m i o=m0 i o
def RI.put{fr r:Id}{m0 m:GB}{l:List Bs}{j k o:Nat}{ds:List D}(h:RI fr r m0 m l j)(s:(k::fr)≠r):RI fr r m0 (m.put (k::fr) o ds) l j:=by
 refine⟨λi hi=>?_,λi o' g=>?_⟩
 ·rw[aA (λe=>s e.symm)];exact h.row i hi
 ·rw[aA (λe=>g Yg)];exact h.out i o' g
def RI.fill{fr r:Id}{m0 m:GB}{l:List Bs}{j:Nat}(h:RI fr r m0 m l j)(n:fr<:+r):RI fr r m0 (m.put r j [.str (l.getD j [])]) l (j+1):=by
 refine⟨λi hi=>?_,λi o' g=>?_⟩
 ·rw[Ah];by_cases e:i=j
  ·simp_all
  ·rw[if_neg Xc,h.row i hi];by_cases y:i<j
   ·rw[if_pos y,if_pos O]
   ·rw[if_neg y,if_neg O]
 ·rw[aA (λe=>g (by rw[e];exact n))];exact h.out i o' g
theorem RI.start{fr:Id}{m:GB}{l:List Bs}{k n:Nat}(g:n=l.length):RI fr (k::fr) m (m.put (k::fr) 0 (Q7 n (.str []))) l 0:=by
 subst g;refine⟨λi hi=>?_,λi o g=>aA (λe=>g Yg)⟩;rw[Ah,if_pos ⟨rfl,O,by simp;exact hi⟩,if_neg O];simp[hi]
def RI.fin{fr r:Id}{m0 m:GB}{l:List Bs}(h:RI fr r m0 m l l.length)(s:∀i o,fr<:+i->m0 i o=none):
  (∀(j:Nat) x,(l.map D.str)[j]?=some x->m r j=some x)∧∀i o x,m0 i o=some x->m i o=some x:=by
 refine⟨λj x q=>?_,λi o x q=>?_⟩
 ·have u:j<l.length:=by have:=(Qq.1 q).1;simpa using this
  rw[h.row j u,if_pos u];simp[u]at q;simp[u,q]
 ·rw[h.out i o (λk=>by rw[s i o k]at q;cases q)];exact q
def Tv(F:List D->Option (List Bs)):G8 where
 rd:=λ_ _=>[]
 ex:=λds _ _=>(F ds).map λl=>(.slice false [] (l.map .str),[])
def kZ{S:Gz}{P:Program}{f:FuncId}{N:Nat}{g:DC}{rs:List RV}{F:List D->Option (List Bs)}(w:Gz.ok P S)(v:Fn P f N g rs)
  (c:∀ds l m fr,F ds=some l->(∀i o,fr<:+i->m i o=none)->ds.length<=N∧g.wp S fr (DW rs λd m'=>∃i,d= .row i l.length∧fr<:+i∧RI fr i m m' l l.length) ⟨BE ds,m,0⟩):(Tv F).ok P f:=by
 refine aFx w v (λ_ _ _ _ _=>rfl) (λds m fr r u z n=>?_);simp only[Tv,Ql,Qs]at z;obtain⟨l,hl,rfl,rfl⟩:=z;obtain⟨q,y⟩:=c ds l m fr hl n;refine⟨q,U,l.map .str,rfl,?_,?_⟩
 ·intro x p;obtain⟨s,_,rfl⟩:=QZ.1 p;exact⟨rfl,rfl⟩
 ·refine LF y (λe k h=>?_);obtain⟨a,d,t,i,b,hs,j⟩:=h;exact⟨a,d,t,i,by simpa using b,hs,(j.fin n).1,λi o x p=>(j.fin n).2 i o x p⟩
open Classical in
def aEl:List D->Option (List Bs)
 |[.slice _ _ xs]=>if xs=Ar (Bk xs)∧xs.length<=1000000 then some ((Bk xs).map (·.1))else none
 |_=>none
open Classical in
theorem aIh{nl:Bool}{t:Id}{l:List Rl}(hl:l.length<=1000000):aEl [.slice nl t (Ar l)]=some (l.map (·.1)):=by
 have h:Ar l=Ar (Bk (Ar l))∧(Ar l).length<=1000000:=by rw[A0,AZ];exact⟨rfl,hl⟩
 show(if _ then _ else _)=_;rw[if_pos h,A0]
open Classical in
def aEk{ds:List D}{r:List Bs}(h:aEl ds=some r):∃nl t l,ds=[.slice nl t (Ar l)]∧l.length<=1000000∧r=l.map (·.1):=by
 unfold aEl at h;split at h
 ·rename_i nl t xs;split at h
  ·rename_i o;obtain⟨u,y⟩:=o;simp only[Qb]at h;subst h;refine⟨nl,t,Bk xs,by rw[←u],?_,rfl⟩;rw[u,AZ]at y;exact y
  ·cases h
 ·cases h
def aFU{S:Gz}{fr:Id}{l:List Rl}{nl:Bool}{t:Id}{m0:GB}{k:Nat}{Q:Ex->St->Prop}(hb:l.length<=1000000)
  (i:∀v,v.s 3= .row (k::fr) l.length->RI fr (k::fr) m0 v.m (l.map (·.1)) l.length->Q (.exit 0) v):
  ∀(f j:Nat) v g,l.length=j+f->k<v.c->v.s 3= .row (k::fr) l.length->v.s 9= .slice nl t (Ar l)->v.s 10= .int .i64 (l.length:Int)->v.s 11= .int .i64 (j:Int)->RI fr (k::fr) m0 v.m (l.map (·.1)) j->A9 S fr OF Q v g:=by
 intro f;induction f with
 |zero=>
  intro j v g e o p h9 q qa I;refine Af OF.eq_1 ?_;have:¬((j:Int)<l.length):=O
  simp only[↓C2,GD,GN,reduceIte,Qe,q,qa,this];exact i _ p X2
 |succ f ih=>
  intro j v g e o p h9 q qa I;refine Af OF.eq_1 ?_;have u:j<l.length:=O
  have y:((j:Int)<l.length):=O
  have oa:=nJ (j:=j);have hw:=wJ (j:=j) O;have n:(Ar l)[j]?=some (.agg [.str (CL l j).1,.int .u8 (CL l j).2]):=Oj u;have hg:(l.map (·.1)).getD j []=(CL l j).1:=by simp[CL,Qc u]
  generalize CL l j=r at n hg;have w:((v.c+1+3)::fr=k::fr)=False:=eq_false Xc;have z:(k::fr=(v.c+1+3)::fr)=False:=eq_false Xc;have x:=I.row j Xu;rw[if_neg O]at x;obtain⟨ma,a,b⟩:=v;simp only at p h9 q qa o w z x I;simp only[↓C2,GO,reduceIte,Qd,Qe,p,h9,q,qa,y,oa,hw,Qj,n,z,x,QA,false_and,Ah,Au,Av,QL,Qi,Qu,Qz,Qo];refine ih (j+1) _ _ O Xb p h9 q rfl ?_;rw[←hg];exact((I.put Xc).put Xc).fill (QI _ _)
def aRj:(Tv aEl).ok Qf 94:=by
 refine kZ (S:=λ_=>none) A4 (Aj func94:Fn Qf 94 23 aK5 [.t 2]) (λds r m fr h x=>?_);obtain⟨nl,t,l,rfl,hl,rfl⟩:=aEk h;refine⟨U,?_⟩;have j:((0:Int)<=(l.length:Int)):=O
 have q:((l.length:Int)*(((16:Nat):Int)+1)<=140737488355328)=True:=eq_true O;unfold aK5;simp only[↓C2,GD,Hp,reduceIte,Qd,Qe,j,q,AZ,Qj,ZC,Qh,Qk,Qm,and_self];refine aFU (l:=l) (nl:=nl) (t:=t) (m0:=m) (k:=3) hl (λv u y=>?_) l.length 0 _ _ O Xb rfl rfl rfl rfl ?_
 ·simp only[↓C2,GD,reduceIte,Qd,Qe,u,Qy];exact⟨_,rfl,QI _ _,y⟩
 ·exact RI.start U
def NL(s:Bs)(l:List Bs):Nat->Nat->Int->Int->Int
 |0,_,b,_=>b
 |f+1,j,b,n=>if n<((l.getD j []).length:Int)∧CJ s (l.getD j [])=true then NL s l f (j+1) j (l.getD j []).length else NL s l f (j+1) b n
def HB(s:Bs)(l:List Bs):Int:=NL s l l.length 0 (-1) (-1)
def aFV{S:Gz}{ns:Id}{s:Bs}{l:List Bs}{nl:Bool}{t:Id}{Q:Ex->St->Prop}{e:Int}(a:S 161=some (Ac uX))(m:l.length<=1000000)
  (c:∀v,v.s 5= .int .i64 e->Q (.exit 0) v):
  ∀(f j:Nat)(b n:Int) v g,l.length=j+f->NL s l f j b n=e->v.s 0= .str s->v.s 5= .int .i64 b->v.s 6= .int .i64 n->v.s 9= .slice nl t (l.map .str)->v.s 10= .int .i64 (l.length:Int)->v.s 11= .int .i64 (j:Int)->A9 S ns OG Q v g:=by
 intro f;induction f with
 |zero=>
  intro j b n v g hf z o h5 h6 i q x;refine Af OG.eq_1 ?_;have:¬((j:Int)<l.length):=O
  simp only[↓C2,GD,GN,reduceIte,Qe,q,x,this];exact c _ (by rw[←z];exact h5)
 |succ f ih=>
  intro j b n v g hf z o h5 h6 i q x;refine Af OG.eq_1 ?_;unfold NL at z;have u:j<l.length:=O
  have y:((j:Int)<l.length):=O
  have w:=nJ (j:=j);have hw:=wJ (j:=j) O;have ka:(l.map D.str)[j]?=some (.str (l.getD j [])):=by simp[u]
  generalize l.getD j []=p at ka z;have k:uX [.str s,.str p]=some (.bool (CJ s p)):=rfl;obtain⟨ma,ia,ea⟩:=v;simp only at o h5 h6 i q x;by_cases r:n<(p.length:Int)
  ·cases hp:CJ s p with
   |true=>
    rw[if_pos ⟨r,hp⟩]at z;simp only[↓C2,GA,simprocAttr,o,i,q,x,h6,y,w,hw,Qj,ka,Ab a,k,Qh,Qk,Qm,QP,r,hp];exact ih (j+1) _ _ _ _ O z o rfl rfl i q rfl
   |false=>
    rw[if_neg (by rw[hp];simp)]at z;simp only[↓C2,GA,simprocAttr,o,i,q,x,h6,y,w,hw,Qj,ka,Ab a,k,Qh,Qk,Qm,QP,r,hp];exact ih (j+1) _ _ _ _ O z o h5 h6 i q rfl
  ·rw[if_neg (λh=>r h.1)]at z;simp only[↓C2,GA,simprocAttr,i,q,x,h6,y,w,hw,Qj,ka,Qh,Qk,Qm,QP,r];exact ih (j+1) _ _ _ _ O z o h5 h6 i q rfl
def uZ:List D->Option D
 |[.str s,.slice _ _ xs]=>(Ga xs).bind λl=>if l.length<=1000000 then some (.int .i64 (HB s l))else none
 |_=>none
def aIi{s:Bs}{nl:Bool}{t:Id}{l:List Bs}(hl:l.length<=1000000):uZ [.str s,.slice nl t (l.map .str)]=some (.int .i64 (HB s l)):=by
 grind [uZ,F9]
def aRk:Kq uZ 93:=by
 obtain⟨S,w,hl⟩:=Bl (Aa aIV Ad);have a:=hl 161 _ rfl;clear hl;refine AL (S:=S) w (Aj func93:Fn Qf 93 30 aK6 [.t 4]) (λds r h=>?_) (λds r h=>?_)
 ·unfold uZ at h;split at h
  ·simp
  ·cases h
 ·unfold uZ at h;split at h
  ·rename_i s nl t xs;rw[QC]at h;obtain⟨l,i,h⟩:=h;obtain rfl:=E6 i;split at h
   ·rename_i hl;simp only[Qb]at h;subst h;unfold aK6;simp only[↓C2,GD,simprocAttr,Qy];refine aFV (s:=s) (l:=l) (nl:=nl) (t:=t) (e:=HB s l) a hl (λv u=>?_) l.length 0 _ _ _ _ O rfl rfl rfl rfl rfl rfl rfl;simp only[↓C2,GA,simprocAttr,u]
   ·cases h
  ·cases h
def CT(l:List Rl)(s:Bs):Int:=if HB s (l.map (·.1))<0 then 0 else(CL l (HB s (l.map (·.1))).toNat).2
def Pr(s:Bs)(l:List Bs):∀(f j:Nat)(b n:Int),l.length=j+f->b<l.length->NL s l f j b n<l.length
 |0,j,b,n,hf,hb=>by simpa[NL]using hb
 |f+1,j,b,n,hf,hb=>by
  unfold NL;split
  ·exact Pr s l f (j+1) _ _ O O
  ·exact Pr s l f (j+1) _ _ O hb
def Wo(s:Bs)(l:List Bs):HB s l<l.length:=Pr s l _ _ _ _ O O
open Classical in
def F95:List D->Option D
 |[.slice _ _ xs,.str s]=>if xs=Ar (Bk xs)∧xs.length<=1000000 then some (.int .u8 (CT (Bk xs) s))else none
 |_=>none
open Classical in
def jS{nl:Bool}{t:Id}{l:List Rl}{s:Bs}(hl:l.length<=1000000):F95 [.slice nl t (Ar l),.str s]=some (.int .u8 (CT l s)):=by
 have h:Ar l=Ar (Bk (Ar l))∧(Ar l).length<=1000000:=by rw[A0,AZ];exact⟨rfl,hl⟩
 show(if _ then _ else _)=_;rw[if_pos h,A0]
open Classical in
theorem oQ{ds:List D}{r:D}(h:F95 ds=some r):∃nl t l s,ds=[.slice nl t (Ar l),.str s]∧l.length<=1000000∧r= .int .u8 (CT l s):=by
 unfold F95 at h;split at h
 ·rename_i nl t xs s;split at h
  ·rename_i o;obtain⟨u,y⟩:=o;simp only[Qb]at h;subst h;refine⟨nl,t,Bk xs,s,by rw[←u],?_,rfl⟩;rw[u,AZ]at y;exact y
  ·cases h
 ·cases h
def aNa:Kq F95 41:=by
 obtain⟨S,g,hl⟩:=Bl (Aa aRj (Aa aRk Ad));have d:=hl 94 _ rfl;have c:=hl 93 _ rfl;clear hl;refine AL (S:=S) g (Aj func41:Fn Qf 41 17 aTk [.t 4]) (λds r h=>?_) (λds r h=>?_)
 ·grind [oQ]
 ·obtain⟨nl,t,l,s,rfl,hl,rfl⟩:=oQ h;have b:∀m fr,(Tv aEl).ex [.slice nl t (Ar l)] m fr=some (.slice false [] ((l.map (·.1)).map .str),[]):=by
   grind [Tv,aIh]
  have a:uZ [.str s,.slice false [] ((l.map (·.1)).map .str)]=some (.int .i64 (HB s (l.map (·.1)))):=aIi Xl;have e:((l.map (·.1)).map D.str).all D.calm=true:=X5
  have w:((l.map (·.1)).map D.str).map D.un=(l.map (·.1)).map D.str:=by rw[QJ];exact QD λ_ _=>rfl
  unfold aTk CT;have k:=Wo s (l.map (·.1));rw[Qy]at k;generalize HB s (l.map (·.1))=i at a k;by_cases hi:i<0
  ·simp only[↓C2,GA,simprocAttr,AE d,b,Ab c,a,hi]
  ·obtain⟨j,rfl⟩:=QX (show 0<=i by omega);have u:j<l.length:=by omega
   have o:=nJ (j:=j);have n:(Ar l)[j]?=some (.agg [.str (CL l j).1,.int .u8 (CL l j).2]):=Oj u;simp only[↓C2,GA,simprocAttr,AE d,b,Ab c,a,hi,o,Qj,n,Qh,Qk,Qm,and_self,QB,QE,QP]
def Mz(l:List Rl)(s:Bs)(f:Int):Bool:=Ui (CT l s).toNat f.toNat
def F4(l:List Rl):Prop:=∀r∈l,0<=r.2∧r.2<256
open Classical in
def aEi:List D->Option D
 |[.slice _ _ xs,.str s,.int .u8 k]=>if xs=Ar (Bk xs)∧xs.length<=1000000∧F4 (Bk xs)∧Cj (Bk xs)∧s.length<=1000000∧0<=k∧k<256 then some (.bool (Mz (Bk xs) s k))else none
 |_=>none
open Classical in
def aIe{nl:Bool}{t:Id}{l:List Rl}{s:Bs}{k:Int}(hl:l.length<=1000000)(o:F4 l)(g:Cj l)(r:s.length<=1000000)(f:0<=k)(u:k<256):aEi [.slice nl t (Ar l),.str s,.int .u8 k]=some (.bool (Mz l s k)):=by
 have h:Ar l=Ar (Bk (Ar l))∧(Ar l).length<=1000000∧F4 (Bk (Ar l))∧Cj (Bk (Ar l))∧s.length<=1000000∧0<=k∧k<256:=by rw[A0,AZ];exact⟨rfl,hl,o,g,r,f,u⟩
 show(if _ then _ else _)=_;rw[if_pos h,A0]
open Classical in
theorem dJ{ds:List D}{r:D}(h:aEi ds=some r):∃nl t l s k,ds=[.slice nl t (Ar l),.str s,.int .u8 k]∧l.length<=1000000∧F4 l∧Cj l∧s.length<=1000000∧0<=k∧k<256∧r= .bool (Mz l s k):=by
 unfold aEi at h;split at h
 ·rename_i nl t xs s k;split at h
  ·rename_i o;obtain⟨u,y,p,g,i,n,c⟩:=o;simp only[Qb]at h;subst h;refine⟨nl,t,Bk xs,s,k,by rw[←u],?_,p,g,i,n,c,rfl⟩;rw[u,AZ]at y;exact y
  ·cases h
 ·cases h
def nE{l:List Rl}{s:Bs}(o:F4 l):0<=CT l s∧CT l s<256:=by
 unfold CT;have y:=Wo s (l.map (·.1));rw[Qy]at y;split
 ·omega
 ·rename_i h;have u:(HB s (l.map (·.1))).toNat<l.length:=by omega
  have:CL l (HB s (l.map (·.1))).toNat=l[(HB s (l.map (·.1))).toNat]:=by simp[CL,Qc u]
  rw[this];exact o _ (Ze u)
def aRd:Kq aEi 307:=by
 obtain⟨S,hS,hl⟩:=Bl (Aa aNa Ad);have z:=hl 41 _ rfl;clear hl;refine AL (S:=S) hS (Aj func307:Fn Qf 307 13 aKT [.t 6]) (λds r h=>?_) (λds r h=>?_)
 ·grind [dJ]
 ·obtain⟨nl,t,l,s,k,rfl,hl,o,g,i,f,u,rfl⟩:=dJ h;have j:=jS (nl:=nl) (t:=[]) (s:=s) hl;have m:=nE (s:=s) o;have e:(Ar l).all D.calm=true:=by rw[Qt];intro x q;obtain⟨y,_,rfl⟩:=QZ.1 q;rfl
  have w:(Ar l).map D.un=Ar l:=YI
  unfold aKT Mz;generalize CT l s=a at j m;obtain⟨a,rfl⟩:=QX m.1;obtain⟨k,rfl⟩:=QX f;have b:=P3 (a:=a) (c:=k) O O;have hz:decide (((Zr k (255-a):Nat):Int)=0)=Ui a k:=by
   unfold Ui;generalize Zr k (255-a)=x;cases x with
   |zero=>rfl
   |succ x=>simp[Nat.beq];omega
  simp only[↓C2,GA,simprocAttr,Ab z,j,Vk,b,hz,Qj]
def gP{m:GB}{e:Nat}{nl:Bool}{t:Id}{xs:List D}:I1 m e (.slice nl t xs)=(nl=true∨(m t 0=some (.tok (e+1))∧t≠[])):=rfl
def WF{e:Nat}{fr t:Id}{xs:List D}:Bc e fr (.slice false t xs)=[(t,0,[.tok 0]),(fr,0,[.tok (e+1)])]:=rfl
def MU(l:List Rl):(Ar l).all D.calm=true:=X5
def Tw(l:List Rl):(Ar l).map D.un=Ar l:=YI
def fD(a b:List Rl)(r:Rl):Bool:=Ui (CT b r.1).toNat (CT a r.1).toNat
def Eu(a b l:List Rl):Nat->Nat->Bool
 |0,_=>true
 |f+1,j=>if fD a b (CL l j)=true then Eu a b l f (j+1)else false
def Is(a b l:List Rl):∀(f j:Nat),l.length=j+f->Eu a b l f j=(l.drop j).all (fD a b)
 |0,j,h=>by rw[List.drop_of_length_le O];rfl
 |f+1,j,h=>by
  have u:j<l.length:=O
  have e:CL l j=l[j]:=by simp[CL,Qc u]
  unfold Eu;rw[Is a b l f (j+1) O,Q4 u,ZI,e];cases fD a b l[j]<;>simp
def Gn(a b:List Rl):Bool:=decide (B3 a=0)&&decide (B3 b=0)&&(a++b).all (fD a b)
open Classical in
def aIx:List D->Option D
 |[.slice _ _ xs,.slice _ _ ys]=>if(xs=Ar (Bk xs)∧xs.length<=1000000∧Cj (Bk xs)∧F4 (Bk xs))∧ys=Ar (Bk ys)∧ys.length<=1000000∧Cj (Bk ys)∧F4 (Bk ys)then some (.bool (Gn (Bk xs) (Bk ys)))else none
 |_=>none
open Classical in
def aIw{na nb:Bool}{ta tb:Id}{a b:List Rl}(q:a.length<=1000000)(lb:b.length<=1000000)(t:Cj a)(i:Cj b)(x:F4 a)(m:F4 b):aIx [.slice na ta (Ar a),.slice nb tb (Ar b)]=some (.bool (Gn a b)):=by
 have h:(Ar a=Ar (Bk (Ar a))∧(Ar a).length<=1000000∧Cj (Bk (Ar a))∧F4 (Bk (Ar a)))∧Ar b=Ar (Bk (Ar b))∧(Ar b).length<=1000000∧Cj (Bk (Ar b))∧F4 (Bk (Ar b)):=by
  grind [A0,AZ]
 show(if _ then _ else _)=_;rw[if_pos h,A0,A0]
open Classical in
theorem dL{ds:List D}{r:D}(h:aIx ds=some r):∃na ta a nb tb b,ds=[.slice na ta (Ar a),.slice nb tb (Ar b)]∧a.length<=1000000∧b.length<=1000000∧Cj a∧Cj b∧F4 a∧F4 b∧r= .bool (Gn a b):=by
 unfold aIx at h;split at h
 ·rename_i na ta xs nb tb ys;split at h
  ·rename_i o;obtain⟨⟨u,y,p,n⟩,c,g,x,j⟩:=o;simp only[Qb]at h;subst h;refine⟨na,ta,Bk xs,nb,tb,Bk ys,by rw[←u,←c],?_,?_,p,x,n,j,rfl⟩
   ·rw[u,AZ]at y;exact y
   ·rw[c,AZ]at g;exact g
  ·cases h
 ·cases h
def aKD:=y0 f58 [] []
def mP:=y0 f59 [] []
def aJA:Fn Qf 59 12 mP [.t 4]:=Aj func59
def OA:=y1 f60 3 [] []
def mO:=y0 f60 [] [(3,OA)]
def aJz:Fn Qf 60 23 mO [.t 4]:=Aj func60
def mU:=y0 f25 [(3,[(5,1)])] []
def aJD:Fn Qf 25 52 mU [.t 4]:=Aj func25
def aLN:=y0 f186 [] []
def ON:=y1 f189 3 [] []
def aLK:=y0 f189 [] [(3,ON)]
def dI:List D->Option D
 |[.int .i64 n,.int .i64 lo,.int .i64 hi]=>some (.bool (decide (lo<=n∧n<=hi)))
 |_=>none
def yK:Kq dI 58:=by
 refine AL (S:=λ_=>none) A4 (Aj func58:Fn Qf 58 15 aKD [.t 6]) (λds r h=>?_) (λds r h=>?_)
 ·unfold dI at h;split at h
  ·simp
  ·cases h
 ·unfold dI at h;split at h
  ·rename_i n lo hi;simp only[Qb]at h;subst h;unfold aKD;simp only[↓C2,GD,simprocAttr]
   repeat' (first|(refine aG (λh=>?_) (λh=>?_)<;>try (exfalso;omega))|(simp only[↓C2,GA,simprocAttr,h,and_self,false_and]))
   all_goals (simp_all<;>omega)
  ·cases h
def aH7:List D->Option D
 |[.agg [.int .i64 a,.bool b,.int .i64 c,.slice nl t xs],.agg [.int .i64 q,.bool b2]]=>some (.int .i64 (if a=0 then q else a))
 |_=>none
def aQ5:Kq aH7 59:=by
 refine AL (S:=λ_=>none) A4 aJA (λds r h=>?_) (λds r h=>?_)
 ·unfold aH7 at h;split at h
  ·simp
  ·cases h
 ·unfold aH7 at h;split at h
  ·rename_i a b c nl t xs q f;simp only[Qb]at h;subst h;unfold mP;simp only[↓C2,GA,simprocAttr,Ah,Qx,Qw,Qh,Qk,Qm,Qg,and_self,Qn,Qp]
   repeat' (first|(refine aG (λh=>?_) (λh=>?_)<;>try (exfalso;omega))|(simp only[↓C2,GA,simprocAttr,h,Ah,Qx,Qw,Qh,Qk,Qm,Qg,and_self,Qn,Qp,QQ]))
   all_goals simp_all
  ·cases h
def aH6:List D->Option D
 |[.slice nl t [],.fn g caps]=>some (.bool true)
 |_=>none
def aQ4:Kq aH6 60:=by
 refine AL (S:=λ_=>none) A4 aJz (λds r h=>?_) (λds r h=>?_)
 ·unfold aH6 at h;split at h
  ·simp
  ·cases h
 ·unfold aH6 at h;split at h
  ·rename_i nl t g caps;simp only[Qb]at h;subst h;unfold mO;simp only[↓C2,GD,simprocAttr,Qk];refine Af OA.eq_1 ?_;simp only[↓C2,GA,simprocAttr,and_self,Zn,Zk]
  ·cases h
def aIn:List D->Option D
 |[.agg [.int .i64 0,.bool b,.int .i64 0,.slice nl t []],.agg [.int .i64 q,.bool b2]]=>some (.int .i64 (if 1<=q∧q<=6 then 0 else 2))
 |_=>none
def aRo:Kq aIn 25:=by
 obtain⟨S,w,hl⟩:=Bl (Aa yK (Aa aQ5 (Aa aQ4 Ad)));have a:=hl 58 _ rfl;have i:=hl 59 _ rfl;have e:=hl 60 _ rfl;clear hl;refine AL (S:=S) w aJD (λds r h=>?_) (λds r h=>?_)
 ·unfold aIn at h;split at h
  ·simp
  ·cases h
 ·unfold aIn at h;split at h
  ·rename_i b nl t q u;simp only[Qb]at h;subst h;unfold mU;have c:∀n lo hi,dI [.int .i64 n,.int .i64 lo,.int .i64 hi]=some (.bool (decide (lo<=n∧n<=hi))):=λ_ _ _=>rfl
   have d:aH7 [.agg [.int .i64 0,.bool b,.int .i64 0,.slice nl [] []],.agg [.int .i64 q,.bool u]]=some (.int .i64 q):=rfl;have f:∀nl t g caps,aH6 [.slice nl t [],.fn g caps]=some (.bool true):=λ_ _ _ _=>rfl
   by_cases v:1<=q∧q<=6
   ·have j:¬(q<0):=by omega
    simp only[↓C2,GO,simprocAttr,Ah,Au,Av,Qi,Qn,Qp,QQ,and_false,Ab a,c,Ab i,d,Ab e,f,v,j,Zk];refine AY ?_;simp only[↓C2,GO,simprocAttr,Ah,Qn,Qp,and_false,v,Zn,Zk]
   ·simp only[↓C2,GA,simprocAttr,Ah,Qx,Qw,Qh,Qk,Qm,Qg,and_self,Qn,QQ,Ab a,c,v]
  ·cases h
def aKW:=y0 f113 [] []
def aLH:=y0 f62 [] []
def aLI:=y0 f192 [] []
abbrev Mt:=Bs×Int×Bool
def MJ(m:Mt):D:= .agg [.str m.1,.int .i64 m.2.1,.bool m.2.2]
def AA(l:List Mt):List D:=l.map MJ
def mtT:D->Mt
 | .agg [.str p,.int .i64 q,.bool b]=>(p,q,b)
 |_=>([],0,false)
def Dp(xs:List D):List Mt:=xs.map mtT
def BH(l:List Mt):Dp (AA l)=l:=by
 simp only[Dp,AA,QJ]
 conv=>rhs;rw[←ZB l]
 exact QD λr _=>rfl
theorem AX(l:List Mt):(AA l).length=l.length:=Qy ..
def yV(l:List Mt):(AA l).all (mI (some 3))=true:=by
 rw[Qt];intro x q;obtain⟨r,_,rfl⟩:=QZ.1 q;rfl
def CE(l:List Mt)(j:Nat):Mt:=l.getD j ([],0,false)
def Ol{l:List Mt}{j:Nat}(h:j<l.length):(AA l)[j]?=some (MJ (CE l j)):=by
 grind [AA,CE]
def Eh(p:Bs)(q:Int):Int:=if AP p≠0 then AP p else if 1<=q∧q<=6 then 0 else 2
def B8(l:List Mt)(p:Bs):Int:=Bh (l.map λm=>decide (m.1=p))
def qW{l:List Mt}{nl:Bool}{t:Id}(hl:l.length<=1000000){q:Bs}(m:GB)(fr i:Id)(u:m i 0=some (.str q)):
  (Fu 248 (some 3) aD2).ex [.slice nl t (AA l),.fn 248 [.ptr i 0]] m fr=some (.int .i64 (B8 l q),[]):=by
 have e:(AA l).map (aD2 (.str q))=(l.map λr=>decide (r.1=q)).map λb=>some (.bool b):=by
  simp only[AA,QJ];exact QD λr _=>rfl
 simp only[Fu,AX,hl,yV,and_self,if_true,Fx,u,Qi,e,Di,QO];rfl
def L2(s:Bs)(l:List Bs):Bool:=l.any λq=>CJ s q||CJ q s
def aCe{l:List Bs}{nl:Bool}{t:Id}(hl:l.length<=1000000){s:Bs}(m:GB)(fr i:Id)(u:m i 0=some (.str s)):
  (dQ 249 none uR).ex [.slice nl t (l.map .str),.fn 249 [.ptr i 0]] m fr=some (.bool (L2 s l),[]):=by
 have e:(l.map D.str).map (uR (.str s))=(l.map λq=>CJ s q||CJ q s).map λb=>some (.bool b):=by
  simp only[QJ];exact QD λr _=>rfl
 have n:(l.map D.str).all (mI none)=true:=by
  rw[Qt];intro x p;obtain⟨r,_,rfl⟩:=QZ.1 p;rfl
 simp only[dQ,Qy,hl,n,and_self,if_true,Fx,u,Qi,e,Di,QO];simp only[L2,ZN];rfl
def aIE:List D->Option D
 |[.agg [.str p,.int .i64 q,.bool b]]=>if p.length<=1000000 then some (.int .i64 (Eh p q))else none
 |_=>none
def aRG:Kq aIE 186:=by
 obtain⟨S,w,hl⟩:=Bl (Aa lI (Aa aRo Ad));have c:=hl 107 _ rfl;have o:=hl 25 _ rfl;clear hl;refine AL (S:=S) w (Aj func186:Fn Qf 186 14 aLN [.t 2]) (λds r h=>?_) (λds r h=>?_)
 ·unfold aIE at h;split at h
  ·simp
  ·cases h
 ·unfold aIE at h;split at h
  ·rename_i p q b;split at h
   ·rename_i v;simp only[Qb]at h;subst h;unfold aLN;have a:dK [.str p]=some (.int .i64 (AP p)):=if_pos v;have z:aIn [.agg [.int .i64 0,.bool false,.int .i64 0,.slice true [] []],.agg [.int .i64 q,.bool b]]=some (.int .i64 (if 1<=q∧q<=6 then 0 else 2)):=rfl;unfold Eh;generalize AP p=e at *;generalize (if 1<=q∧q<=6 then(0:Int)else 2)=m at *;by_cases f:e=0
    ·subst f;simp only[↓C2,GO,reduceIte,Qd,Qe,Ah,Au,Av,QL,Qi,Cf,Ab c,a,Ab o,z,ne_eq]
    ·simp only[↓C2,GA,reduceIte,Qd,Qe,Ah,Qx,QL,Qw,Qh,Qk,Qm,Qg,and_self,Ab c,a,f,ne_eq]
   ·cases h
  ·cases h
open Classical in
def aEt:List D->Option D
 |[.agg [.slice _ _ xs],.str p]=>if xs=AA (Dp xs)∧xs.length<=1000000 then some (.int .i64 (B8 (Dp xs) p))else none
 |_=>none
open Classical in
def OT{nl:Bool}{t:Id}{l:List Mt}{p:Bs}(hl:l.length<=1000000):aEt [.agg [.slice nl t (AA l)],.str p]=some (.int .i64 (B8 l p)):=by
 have h:AA l=AA (Dp (AA l))∧(AA l).length<=1000000:=XJ
 show(if _ then _ else _)=_;rw[if_pos h,BH]
def yM:Kq aEt 187:=by
 obtain⟨S,g,hl⟩:=Bl (Aa aOf Ad);have a:=hl 247 _ rfl;clear hl;refine AL (S:=S) g (Aj func187:Fn Qf 187 9 aLM [.t 4]) (λds r h=>?_) (λds r h=>?_)
 ·unfold aEt at h;split at h
  ·simp
  ·cases h
 ·unfold aEt at h;split at h
  ·rename_i nl t xs p;split at h
   ·rename_i o;obtain⟨m,w⟩:=o;simp only[Qb]at h;subst h;generalize Dp xs=l at m;subst m;rw[AX]at w;unfold aLM;simp only[↓C2,GA,reduceIte,Qd,Qe,Ah,Qx,QL,Qw,Qh,Qk,Qm,Qg,and_self,Qn,Qp,QQ,AE a,qW (q:=p) w]
   ·cases h
  ·cases h
def aEs:List D->Option D
 |[.str s,.slice _ _ xs]=>(Ga xs).bind λl=>if l.length<=1000000 then some (.bool (L2 s l))else none
 |_=>none
def aID{s:Bs}{nl:Bool}{t:Id}{l:List Bs}(hl:l.length<=1000000):aEs [.str s,.slice nl t (l.map .str)]=some (.bool (L2 s l)):=by
 grind [aEs,F9]
def aRF:Kq aEs 188:=by
 obtain⟨S,w,hl⟩:=Bl (Aa aTM Ad);have a:=hl 118 _ rfl;clear hl;refine AL (S:=S) w (Aj func188:Fn Qf 188 8 aLL [.t 4]) (λds r h=>?_) (λds r h=>?_)
 ·unfold aEs at h;split at h
  ·simp
  ·cases h
 ·unfold aEs at h;split at h
  ·rename_i s nl t xs;rw[QC]at h;obtain⟨l,i,h⟩:=h;obtain rfl:=E6 i;split at h
   ·rename_i hl;simp only[Qb]at h;subst h;unfold aLL;simp only[↓C2,GA,reduceIte,Qd,Qe,Ah,Qx,QL,Qw,Qh,Qk,Qm,Qg,and_self,AE a,aCe (s:=s) hl]
   ·cases h
  ·cases h
def RI.base{fr r:Id}{m0 a m:GB}{l:List Bs}{j:Nat}(h:RI fr r a m l j)(e:∀i o,¬fr<:+i->a i o=m0 i o):RI fr r m0 m l j:=
 ⟨h.row,λi o g=>(h.out i o g).trans (e i o g)⟩
open Classical in
def aIC:List D->Option (List Bs)
 |[.agg [.slice _ _ xs]]=>if xs=AA (Dp xs)∧xs.length<=1000000 then some ((Dp xs).map (·.1))else none
 |_=>none
open Classical in
def aIB{nl:Bool}{t:Id}{l:List Mt}(hl:l.length<=1000000):aIC [.agg [.slice nl t (AA l)]]=some (l.map (·.1)):=by
 have h:AA l=AA (Dp (AA l))∧(AA l).length<=1000000:=XJ
 show(if _ then _ else _)=_;rw[if_pos h,BH]
open Classical in
def aEr{ds:List D}{r:List Bs}(h:aIC ds=some r):∃nl t l,ds=[.agg [.slice nl t (AA l)]]∧l.length<=1000000∧r=l.map (·.1):=by
 unfold aIC at h;split at h
 ·rename_i nl t xs;split at h
  ·rename_i o;obtain⟨u,y⟩:=o;simp only[Qb]at h;subst h;refine⟨nl,t,Dp xs,by rw[←u],?_,rfl⟩;rw[u,AX]at y;exact y
  ·cases h
 ·cases h
def aF0{S:Gz}{fr:Id}{l:List Mt}{nl:Bool}{t:Id}{m0:GB}{k:Nat}{Q:Ex->St->Prop}(hb:l.length<=1000000)
  (i:∀v,v.s 3= .row (k::fr) l.length->RI fr (k::fr) m0 v.m (l.map (·.1)) l.length->Q (.exit 0) v):
  ∀(f j:Nat) v g,l.length=j+f->k<v.c->v.s 3= .row (k::fr) l.length->v.s 11= .slice nl t (AA l)->v.s 12= .int .i64 (l.length:Int)->v.s 13= .int .i64 (j:Int)->RI fr (k::fr) m0 v.m (l.map (·.1)) j->A9 S fr ON Q v g:=by
 intro f;induction f with
 |zero=>
  intro j v g hf o p qa e ra I;refine Af ON.eq_1 ?_;have:¬((j:Int)<l.length):=O
  simp only[↓C2,GD,GN,reduceIte,Qe,e,ra,this];exact i _ p X2
 |succ f ih=>
  intro j v g hf o p qa e ra I;refine Af ON.eq_1 ?_;have u:j<l.length:=O
  have y:((j:Int)<l.length):=O
  have q:=nJ (j:=j);have hw:=wJ (j:=j) O;have n:(AA l)[j]?=some (.agg [.str (CE l j).1,.int .i64 (CE l j).2.1,.bool (CE l j).2.2]):=Ol u;have hg:(l.map (·.1)).getD j []=(CE l j).1:=by simp[CE,Qc u]
  generalize CE l j=r at n hg;have w:((v.c+1+3)::fr=k::fr)=False:=eq_false Xc;have z:(k::fr=(v.c+1+3)::fr)=False:=eq_false Xc;have x:=I.row j Xu;rw[if_neg O]at x;obtain⟨ma,a,b⟩:=v;simp only at p qa e ra o w z x I;simp only[↓C2,GO,reduceIte,Qd,Qe,p,qa,e,ra,y,q,hw,Qj,n,z,x,QA,false_and,Ah,Au,Av,QL,Qi,Qu,Qz,Qo,false_and];refine ih (j+1) _ _ O Xb p qa e rfl ?_;rw[←hg];exact((I.put Xc).put Xc).fill (QI _ _)
def aRE:(Tv aIC).ok Qf 189:=by
 refine kZ (S:=λ_=>none) A4 (Aj func189:Fn Qf 189 25 aLK [.t 2]) (λds r m fr h x=>?_);obtain⟨nl,t,l,rfl,hl,rfl⟩:=aEr h;refine⟨U,?_⟩;have j:((0:Int)<=(l.length:Int)):=O
 have q:((l.length:Int)*(((16:Nat):Int)+1)<=140737488355328)=True:=eq_true O;unfold aLK;simp only[↓C2,GA,reduceIte,Qd,Qe,j,q,AX,Qj,ZC,Ah,Qx,QL,Qw,Qh,Qk,Qm,Qg,and_self,Qn,false_and];refine aF0 (l:=l) (nl:=nl) (t:=t) (m0:=m) (k:=5) hl (λv u y=>?_) l.length 0 _ _ O Xb rfl rfl rfl rfl ?_
 ·simp only[↓C2,GD,reduceIte,Qd,Qe,u,Qy];exact⟨_,rfl,QI _ _,y⟩
 ·exact RI.base (RI.start (by simp[])) (λi o g=>aA (λe=>g Yg))
def aKn:=y0 f61 [] []
def aJ4:=y0 f57 [] []
def aKI:=y0 f273 [] []
def aLs:=y0 Tryz.f219 [(1,[(1,0)])] []
def aKH:=y0 f274 [] []
def aJ3:=y0 Tryz.f314 [] []
def aKG:=y0 f275 [(5,[(2,4),(2,6),(6,1),(6,2)]),(7,[(4,2)])] []
def aJ2:=y0 f315 [] []
def Ux:=y1 f278 4 [] []
def aKC:=y0 f278 [(1,[(5,1)])] [(4,Ux)]
def W6:=y0 f316 [] []
def aAT:Fn Qf 316 8 W6 [.t 2]:=Aj func316
def aLq:=y0 f222 [] []
def Uw:=y1 f279 8 [] []
def aKA:=y0 f279 [(1,[(1,0)])] [(8,Uw)]
def aKz:=y0 f280 [] []
def aKy:=y0 f281 [] []
def aKx:=y0 f282 [] []
def aLo:=y0 f226 [] []
def aLn:=y0 f227 [] []
def aLm:=y0 f228 [] []
def aJ0:=y0 f318 [] []
def Up:=y1 f343 2 [] []
def aJM:=y0 f343 [] [(2,Up)]
def Us:=y1 f317 5 [(7,[(6,2),(6,8),(9,2)])] []
def aJ1:=y0 f317 [(1,[(1,0)]),(3,[(5,1),(5,7),(5,10)])] [(5,Us)]
def aJN:=y0 f342 [] []
end Go.Vd
namespace Go.Vd
section
variable{α:Type}(lt:α->α->Bool)(d:α)
def swp(xs:List α)(j:Nat):List α:=(xs.set (j+1) (xs.getD j d)).set j (xs.getD (j+1) d)
def PC(xs:List α):Nat->List α
 |0=>xs
 |j+1=>if lt (xs.getD (j+1) d) (xs.getD j d)=true then PC (swp d xs j) j else xs
def Db:Nat->Nat->List α->List α
 |0,_,xs=>xs
 |f+1,i,xs=>Db f (i+1) (PC lt d xs i)
def kR(l:List α)(m:α):Nat->Nat
 |0=>0
 |j+1=>if lt m (l.getD j d)=true then kR l m j else j+1
def aJo(l:List α)(m:α):∀j,kR lt d l m j<=j
 |0=>QA _
 |j+1=>by
  unfold kR;split
  ·exact Nat.le_succ_of_le (aJo l m j)
  ·exact QA _
def kK(xs:List α)(j:Nat):(swp d xs j).length=xs.length:=by simp[swp]
def PB:∀(j:Nat)(xs:List α),(PC lt d xs j).length=xs.length
 |0,xs=>rfl
 |j+1,xs=>by
  unfold PC;split
  ·rw[PB j,kK]
  ·rfl
theorem isortR_len:∀(f i:Nat)(xs:List α),(Db lt d f i xs).length=xs.length
 |0,_,xs=>rfl
 |f+1,i,xs=>by rw[Db,isortR_len f,PB]
def aE4(a b:List α)(x y:α):swp d (a++x::y::b) a.length=a++y::x::b:=by
 simp_all [swp]
def WA(l:List α)(m:α):∀(j:Nat)(b:List α),j<=l.length->PC lt d (l.take j++m::b) j=l.take (kR lt d l m j)++m::((l.take j).drop (kR lt d l m j)++b)
 |0,b,_=>by simp[PC,kR]
 |j+1,b,h=>by
  have r:(l.take j).length=j:=XC
  have q:l.take (j+1)=l.take j++[l.getD j d]:=by
   rw[Zb O];simp[Zy,Qc (show j<l.length by omega)]
  have e:l.take (j+1)++m::b=l.take j++l.getD j d::m::b:=by rw[q];simp
  have v:(l.take j++l.getD j d::m::b).getD (j+1) d=m:=by
   simp_all
  have x:(l.take j++l.getD j d::m::b).getD j d=l.getD j d:=by
   simp_all
  rw[e];unfold PC kR;rw[v,x];split
  ·have i:=aE4 d (l.take j) b (l.getD j d) m;rw[r]at i;rw[i,WA l m j (l.getD j d::b) O,q];have s:=aJo lt d l m j;rw[List.drop_append_of_le_length O];simp
  ·simp_all
def gH{xs:List α}{i:Nat}(h:lt (xs.getD i d) (xs.getD (i-1) d)=false):PC lt d xs i=xs:=by
 cases i with
 |zero=>rfl
 |succ j=>
  unfold PC;rw[Zv]at h;rw[if_neg (by rw[h];exact Bool.false_ne_true)]
def SC(l:List α)(m:α)(r:∀i,i+1<l.length->lt (l.getD (i+1) d) (l.getD i d)=false):
  ∀(f i:Nat),1<=i->i+f=l.length+1->Db lt d f i (l++[m])=if f=0 then l++[m]else l.take (kR lt d l m l.length)++m::l.drop (kR lt d l m l.length)
 |0,i,_,_=>by simp[Db]
 |f+1,i,hi,h=>by
  rw[if_neg (Qv f)];unfold Db;by_cases s:f=0
  ·subst s;have:i=l.length:=by omega
   subst this;have:=WA lt d l m l.length [] (QA _);simp only[Zp,List.append_nil]at this;unfold Db;exact this
  ·have g:i<l.length:=by omega
   have v:(l++[m]).getD i d=l.getD i d:=by simp[Zy,QU g]
   have x:(l++[m]).getD (i-1) d=l.getD (i-1) d:=by simp[Zy,QU (show i-1<l.length by omega)]
   rw[gH lt d (by rw[v,x];have:=r (i-1) O;rwa [show i-1+1=i by omega]at this),SC l m r f (i+1) O O,if_neg s]
end
end Go.Vd
namespace Go.Vd
open Go.RowKit
def D.plain:D->Bool
 | .bool _| .int _ _| .str _=>true
 |_=>false
def Rep.plain{w i:World}{g a:Gh}{d:D}{v:Value}(h:Rep w g d v)(y:d.plain=true):Rep i a d v:=by
 cases h with
 |bool b=>exact .bool b
 |int k n=>exact .int k n
 |str s=>exact .str s
 |_=>cases y
def H8(F:List D->Option (List D)):G8 where
 rd:=λ_ _=>[]
 ex:=λds _ fr=>if(ds.map D.un).all D.calm=true then(F (ds.map D.un)).map λxs=>(.row fr xs.length,[(fr,0,flat xs)])else none
section
variable{P:Program}{B:Nat}{w0 w w':World}{m:GB}{g:Gh}
def GJ.adopt(h:GJ P B w0 m w g)(hb:Below w.heap.size w w'){fr:Id}(hf:BU m g fr){b:Nat}(k:w.heap.size<=b){cur:Array Value}{T:TypeId}(hh:w'.heap[b]?=some (.cells cur T (0,0))){ds:List D}
  (hc:∀(j:Nat) d,ds[j]?=some d->d.plain=true∧∃v,cur[j]?=some v∧v.oneCell'=true∧Rep w' (g.obj fr b) d v):
  GJ P B w0 (m.put fr 0 ds) w' (g.obj fr b)∧GY w g w' (g.obj fr b):=by
 have x:GY w g w' (g.obj fr b):=by
  refine⟨λp hp=>?_,λb=>QA _,λi' b h=>?_,rfl,λi x h=>h⟩
  ·by_cases da:p.block<w.heap.size
   ·exact hb.cell da
   ·rw[h.gz _ O]at hp;omega
  ·simp only[Gh.obj];split
   ·rename_i e;subst e;rw[hf.2.1]at h;cases h
   ·exact h
 refine⟨?_,x⟩;have ne:∀i' b',g.dl i'=some b'->i'≠fr:=λi' b' hb e=>by subst e;rw[hf.2.1]at hb;cases hb
 have ea:∀o d,m.put fr 0 ds fr o=some d->ds[o]?=some d:=by
  intro o d hm;by_cases ho:o<ds.length
  ·have z:m.put fr 0 ds fr (0+o)=ds[o]?:=aE ho;rw[Qm]at z;rw[←z];exact hm
  ·rw[aD O,hf.1 o]at hm;cases hm
 have ab:∀{o d},m.put fr 0 ds fr o=some d->d.plain=true:=λhm=>(hc _ _ (ea _ _ hm)).1
 have a:∀{i o d},m.put fr 0 ds i o=some d->d.plain=false->i≠fr∧m i o=some d:=by
  grind [aA]
 refine⟨h.below.trans (hb.mono h.size),QR h.size hb.size,λb' wa=>h.gz b' (QR hb.size wa),h.old,λi' b' hi=>?_,λi1 i2 b' u f=>?_,λi' o d hm t=>?_,λi' e hi=>?_,λi1 i2 e e' b' y y' u f h3 h4=>?_,h.itr.to (λi' s p e=>(a e rfl).2) λi' b' s p _ _ _ e1 e2 e3=>?_⟩
 rotate_right
 ·have da:b'<w.heap.size:=(QG.1 e1).1;refine⟨rfl,hb.block b' da,e2,λi1 u=>?_⟩;simp only[Gh.obj]at u;split at u
  ·grind
  ·exact e3 i1 u
 ·simp only[Gh.obj]at hi;split at hi
  ·rename_i e;subst e;simp only[Qb]at hi;subst hi;refine⟨QR h.size k,h.gz _ k,cur,T,hh,λo d hm=>?_⟩;exact(hc o d (ea o d hm)).2
  ·rename_i fa;obtain⟨p,q,bb,T',ja,r⟩:=h.obj i' b' hi;refine⟨p,q,bb,T',(hb.block b' (h.lt hi)).trans ja,λo d hm=>?_⟩;rw[aA fa]at hm;obtain⟨v,r1,r2,r3⟩:=r o d hm;exact⟨v,r1,r2,r3.ext x⟩
 ·simp only[Gh.obj]at u f;split at u<;>split at f
  ·simp_all
  ·simp only[Qb]at u;subst u;have:=h.lt f;omega
  ·simp only[Qb]at f;subst f;have:=h.lt u;omega
  ·exact h.inj _ _ _ u f
 ·simp only[Gh.obj]at t;split at t
  ·cases t
  ·rename_i fa;rw[aA fa]at hm;exact h.kind _ _ _ hm t
 ·obtain⟨fa,hi⟩:=a hi rfl;obtain⟨b1,n,c,sz,na,t1,t2,t3,t4,t5,t6,t7,t8,t9,xa⟩:=h.tok i' e hi;have da:b1<w.heap.size:=(QG.1 t5).1;refine⟨b1,n,c,sz,na,t1,t2,t3,t4,(hb.block b1 da).trans t5,t6,t7,t8,t9,λi1 u=>?_⟩;simp only[Gh.obj]at u;split at u
  ·grind
  ·exact xa i1 u
 ·exact h.tinj _ _ _ _ _ _ _ (a u rfl).2 (a f rfl).2 h3 h4
end
section
variable{P:Program}{S:Gz}{f:FuncId}{N:Nat}{dc:DC}{rs:List RV}
def xZ(hS:Gz.ok P S)(hf:Fn P f N dc rs){F:List D->Option (List D)}(hN:∀ds r,F ds=some r->ds.length<=N)
  (hF:∀ds xs,F ds=some xs->(∀x∈flat xs,x.plain=true)∧dc.wp S [] (DW rs λd m'=>∃t e,d= .slice false t xs∧t≠[]∧m' t 0=some (.tok (e+1))) ⟨BE ds,λ_ _=>none,0⟩):(H8 F).ok P f:=by
 obtain⟨fn,ba,q,y,h3,h4,h5,h6⟩:=hf.is;refine⟨⟨fn,q,XI,h3⟩,λds m m' fr _=>rfl,?_⟩;intro B w0 w m g fr ds vs r u hi ia hl ea z;simp only[H8]at z;split at z
 ·rename_i la;rw[Ql]at z;obtain⟨xs,hr,z⟩:=z;simp only[Qs]at z;obtain⟨rfl,rfl⟩:=z;obtain⟨ab,za⟩:=hF _ _ hr;have ua:=MP P w hi.gz;have ca:∀(j:Nat) d v,(ds.map D.un)[j]?=some d->vs[j]?=some v->Rep w (startG g.G) d v:=by
   intro j d v hd hv;have hc:=Qt.1 la d (Qr hd);rw[QN,Ql]at hd;obtain⟨d',ra,rfl⟩:=hd;exact(ea j d' v ra hv).un.calm_to hc (λ_ _=>rfl) (λ_=>QA _)
  have ja:=F5 (B:=w.heap.size) (w0:=w) (w:=w) (g:=startG g.G) (ns:=[]) (m:=λ_ _=>none) (ds:=ds.map D.un) (vs:=vs) hS hf (hN _ _ hr) ua (λk i _=>⟨λ_=>rfl,rfl,rfl⟩) Xl ca za;refine ja.mono ?_;rintro e w' ⟨v,d,m',g',rfl,s,ma,_,ya,t,e',rfl,ht,l⟩;obtain⟨b,n,c,sz,cur,t1,t2,t3,t4,t5,t6,t7,t8,t9,xa⟩:=s.tok t e' l;rcases ya.slice_inv with ⟨h,_⟩|⟨_,ad,n',c',oa,vv,rfl,q1,q2,q3,q4,q5,q6,q7,q8,q9⟩
  ·cases h
  ·obtain⟨p,o,a⟩:=q8 ht;rw[t1]at a;simp only[Qb,Qs]at a;obtain⟨hb,hn,hc,ka⟩:=a;have tb:ad=⟨b,0,none⟩:=by
    cases ad;simp only at hb p o;subst hb p o;rfl
   subst tb;subst hn hc ka;have va:=Ce q3;obtain⟨i1,i2⟩:=hi.adopt s.below (ia fr (Zq _)) t2 t5 (ds:=flat xs) (λj d hd=>by
    have hj:j<n*sz:=by rw[q1,←va];exact(Qq.1 hd).1
    have hp:=ab d (Qr hd);have ga:=q4 j hj;rw[Fr,Qm]at ga;refine⟨hp,vv j,?_,q5 j hj,(q6 j d hd).plain hp⟩;simpa[World.cell?,t5]using ga)
   refine⟨_,g.obj fr b,rfl,i1,i2,?_,λi hf fa=>Et hf fa _ _⟩;rw[←q1];exact .row fr n c b q2 (by simp[Gh.obj])
 ·cases z
def aOU(m:GB)(d r:D):Prop:=r=d.un∨(∃i xs sz,d= .row i xs.length∧r= .slice false [] xs∧(∀x∈xs,x.calm=true∧x.cells.length=sz)∧∀(j:Nat) x,(flat xs)[j]?=some x->m i j=some x)∨
 ∃i xs,d= .ptr i 0∧r= .eptr xs∧(∀x∈xs,x.calm=true)∧∀(j:Nat) x,xs[j]?=some x->m i j=some x
def uF(p:D->D->Prop):List D->List D->Prop
 |[],[]=>True
 |c::cs,x::xs=>p c x∧uF p cs xs
 |_,_=>False
def aOT(m:GB)(d r:D):Prop:=aOU m d r∨∃cs xs,d= .agg cs∧r= .agg xs∧uF (aOU m) cs xs
def aTY(m:GB)(d r:D):Prop:=(r.calm=true∧aOT m d r)∨∃cs xs,d= .tup cs∧r= .tup xs∧uF (aOT m) cs xs
def uF.get{p:D->D->Prop}:∀{cs xs:List D},uF p cs xs->cs.length=xs.length∧∀(j:Nat) c x,cs[j]?=some c->xs[j]?=some x->p c x
 |[],[],_=>⟨rfl,U⟩
 |c::cs,x::xs,h=>by
  obtain⟨u,y⟩:=h;obtain⟨a,b⟩:=uF.get y;refine⟨by simp[a],λj c' k o q=>?_⟩;cases j with
  |zero=>simp only[Qg,Qb]at o q;subst o q;exact u
  |succ j=>simp only[QM]at o q;exact b j c' k o q
 |[],_::_,h=>h.elim
 |_::_,[],h=>h.elim
def mA(hS:Gz.ok P S)(hf:Fn P f N dc rs){F:List D->Option D}(hN:∀ds r,F ds=some r->ds.length<=N)
  (hF:∀ds r,F ds=some r->r.calmR=true∧dc.wp S [] (DW rs λd m'=>aTY m' d r) ⟨BE ds,λ_ _=>none,0⟩):(Ac F).ok P f:=by
 obtain⟨fn,ba,q,h2,h3,h4,h5,h6⟩:=hf.is;refine⟨⟨fn,q,by rw[h2];rfl,h3⟩,λds m m' fr _=>rfl,?_⟩;intro B w0 w m g fr ds vs r u hi ia hl ea z;simp only[Ac]at z;split at z
 ·rename_i la;rw[Ql]at z;obtain⟨r',hr,z⟩:=z;simp only[Qs]at z;obtain⟨rfl,rfl⟩:=z;obtain⟨ga,za⟩:=hF _ _ hr;have ua:=MP P w hi.gz;have n:∀(j:Nat) d v,(ds.map D.un)[j]?=some d->vs[j]?=some v->Rep w (startG g.G) d v:=by
   intro j d v t hv;have o:=Qt.1 la d (Qr t);rw[QN,Ql]at t;obtain⟨d',ra,rfl⟩:=t;exact(ea j d' v ra hv).un.calm_to o (λ_ _=>rfl) (λ_=>QA _)
  have ja:=F5 (B:=w.heap.size) (w0:=w) (w:=w) (g:=startG g.G) (ns:=[]) (m:=λ_ _=>none) (ds:=ds.map D.un) (vs:=vs) hS hf (hN _ _ hr) ua (λk i _=>⟨λ_=>rfl,rfl,rfl⟩) Xl n za;refine ja.mono ?_;rintro e w' ⟨v,d,m',g',rfl,s,ma,_,ya,na⟩
  let G':Nat->Nat:=λb=>max (g'.G b) (match w'.heap[b]? with|some (.cells c _ _)=>c.size|_=>0)
  have y:∀b,g'.G b<=(g.glue w G').G b:=by
   intro b;simp only[Gh.glue];split
   ·rename_i da;rw[s.old b da,ma.G0];exact QA _
   ·exact Nat.le_max_left ..
  have l:∀b,w'.heap.size<=b->G' b=0:=by
   intro b hb;simp only[G'];rw[Array.getElem?_eq_none hb,s.gz b hb];rfl
  have hC:∀{d r:D} {v:Value},Rep w' g' d v->aOU m' d r->r.calm=true->Rep w' (g.glue w G') r v:=by
   intro d r v h hs o;rcases hs with rfl|⟨i,xs,sz,rfl,rfl,p,hm⟩|⟨i,xs,rfl,rfl,p,hm⟩
   ·exact h.un.calm_to o (λ_ _=>rfl) y
   ·obtain⟨b,cap,rfl,qa,hb⟩:=h.row_inv;obtain⟨ib,lb,cur,T,a,oa⟩:=s.obj i b hb;have va:=Ce λx h=>(p x h).2
    have ab:∀(j:Nat),j<(flat xs).length->∃v,cur[j]?=some v∧v.oneCell'=true∧∃x,(flat xs)[j]?=some x∧Rep w' g' x v:=by
     grind
    have ka:(flat xs).length<=cur.size:=by
     grind
    have la:∀x∈xs,x.calm=true:=λx h=>(p x h).1
    refine aH (sz:=sz) (cur:=cur) (vs:=cur.toList.take (flat xs).length) a rfl qa (λx h=>(p x h).2) ⟨Xc,λv hv=>?_,λj x v pa hv=>?_⟩ (λj v hv=>?_) ?_ (λh=>absurd rfl h) la
    ·obtain⟨j,hj,rfl⟩:=QW hv;have sa:j<(flat xs).length:=Zj hj (Zg _ _);obtain⟨v',r1,r2,_⟩:=ab j sa;have:(cur.toList.take (flat xs).length)[j]?=some v':=by rw[QK sa];simpa using r1
     rw[Qc hj]at this;rw[QF this];exact r2
    ·have sa:j<(flat xs).length:=(Qq.1 pa).1;obtain⟨v',r1,r2,x',ta,r3⟩:=ab j sa;rw[pa]at ta;obtain rfl:=QF ta;have:(cur.toList.take (flat xs).length)[j]?=some v':=by rw[QK sa];simpa using r1
     rw[hv]at this;obtain rfl:=QF this;exact r3.calm_to (Np la x (Qr pa)) (λ_ _=>rfl) y
    ·grind
    ·rw[←va];simp only[Gh.glue,G'];rw[if_neg O,a];exact QR ka (Zz ..)
   ·obtain⟨b,rfl,hb⟩:=h.ptr_inv;obtain⟨ib,lb,cur,T,a,oa⟩:=s.obj i b hb;have ab:∀(j:Nat)(hj:j<xs.length),∃v,cur[j]?=some v∧v.oneCell'=true∧Rep w' g' xs[j] v:=λj hj=>oa j _ (hm j _ (Qc hj))
    have ka:xs.length<=cur.size:=by
     rcases Zu xs.length with h0|h0
     ·omega
     ·obtain⟨v,r1,_⟩:=ab (xs.length-1) O;have:=(QG.1 r1).1;omega
    refine .eptr xs ⟨b,0,none⟩ (λj=>cur.getD j undef) (λj hj=>?_) (λj hj=>?_) (λj d t=>?_) (λ_=>?_) p
    ·rw[Fr,Qm];simp[World.cell?,a,Array.getD,show j<cur.size by omega]
    ·obtain⟨v,r1,r2,_⟩:=ab j hj;have:cur.getD j undef=v:=by simp[Zh,r1]
     rw[this];exact r2
    ·have hj:=(Qq.1 t).1;obtain⟨v,r1,_,r3⟩:=ab j hj;have q:cur.getD j undef=v:=by simp[Zh,r1]
     have h2:xs[j]=d:=(Qq.1 t).2;rw[h2]at r3;rw[q];exact r3.calm_to (p d (Qr t)) (λ_ _=>rfl) y
    ·simp only[Gh.glue,G'];rw[if_neg O,a];exact QR (by simpa using ka) (Zz ..)
  have hD:∀{d r:D} {v:Value},Rep w' g' d v->aOT m' d r->r.calm=true->Rep w' (g.glue w G') r v:=by
   intro d r v h hs o;rcases hs with hs|⟨cs,xs,rfl,rfl,hL⟩
   ·exact hC h hs o
   ·obtain⟨us,rfl,k1,k2,k3⟩:=aJ h;obtain⟨l1,l2⟩:=hL.get;refine .agg _ us (by rw[k1,l1]) k2 (λj x v p hv=>?_);have hj:j<cs.length:=by rw[l1];exact(Qq.1 p).1
    exact hC (k3 j _ v (Qc hj) hv) (l2 j _ x (Qc hj) p) (bV o x (Qr p))
  refine⟨v,g.glue w G',rfl,hi.glue s.below l,GY.glue hi.gz s.below,?_,λi hf _=>hf⟩;rcases na with ⟨o,hs⟩|⟨cs,xs,rfl,rfl,hL⟩
  ·exact hD ya hs o
  ·obtain⟨us,rfl,k1,k2⟩:=ya.tup_inv;obtain⟨l1,l2⟩:=hL.get;refine .tup _ us (by rw[k1,l1]) (λj x v p hv=>?_);have hj:j<cs.length:=by rw[l1];exact(Qq.1 p).1
   simp only[D.calmR,Qt]at ga;exact hD (k2 j _ v (Qc hj) hv) (l2 j _ x (Qc hj) p) (ga x (Qr p))
 ·cases z
end
def aF9:D->Bool
 | .slice _ _ _=>true
 |_=>false
def EN:List D->Nat
 |[]=>0
 | .slice _ _ xs::r=>xs.length+EN r
 |_::r=>EN r
def bT:∀{L ys:List D},ES L=some ys->ys.length=EN L∧L.all aF9=true
 |[],ys,h=>by simp only[ES,Qb]at h;subst h;exact⟨rfl,rfl⟩
 |x::r,ys,h=>by
  unfold ES at h;split at h
  ·rename_i f;cases f
  ·rename_i nl t xs w f;cases f;rw[Ql]at h;obtain⟨zs,i,rfl⟩:=h;obtain⟨u,y⟩:=bT i;exact⟨by simp[EN,u],by simp[aF9,y]⟩
  ·cases h
def dP(sz:Nat)(d:D):Bool:=d.cells.length==sz
def gM{sz:Nat}{ys:List D}(h:ys.all (dP sz)=true):aF ys sz=sz:=by
 cases ys with
 |nil=>rfl
 |cons y r=>
  have:=Qt.1 h y (Q5 ..);simpa[aF,dP]using this
def aVF{n bytes:Nat}(m:bytes<=1000000)(g:n<=100000):n*(bytes+1)<=140737488355328:=QR (Nat.mul_le_mul g (Nat.succ_le_succ m)) O
def aAL{m:GB}{e:Nat}{fr t:Id}{nl:Bool}{xs:List D}:GF.app m (Bc e fr (.slice nl t xs)) fr 0=some (.tok (e+1)):=by
 cases nl<;>simp[Bc,GF.app,BG]
def Ly(pt:Nat):DC:=(.seq (.row [⟨some 12,.bin .lss (.t 11) (.t 10),[],none⟩]) (.seq (.cond (.t 12) .skip (.exit 0)) (.seq (.block 1 (.seq (.row [⟨some 13,.iaddr 1 (.t 9) (.t 11),[],none⟩,⟨some 14,.load none (.t 13),[],none⟩,⟨some 5,.mv (.t 14),[],none⟩]) (.seq (.row [⟨some 15,.mv (.t 3),[],none⟩,⟨some 16,.mv (.t 5),[],none⟩,⟨some 17,.len false (.t 16),[],none⟩,⟨some 18,.bin .add (.t 15) (.t 17),[],none⟩,⟨some 3,.mv (.t 18),[],none⟩]) (.seq (.row [⟨some 19,.mv (.t 3),[],none⟩,⟨some 20,.bin .lss (.t 19) (.c (.int .i64 0)),[],none⟩]) (.cond (.t 20) (.row [⟨some 21,.mkif pt (.c (.str [108,101,110,32,111,117,116,32,111,102,32,114,97,110,103,101])),[],none⟩,⟨none,.stop,[],none⟩]) .skip))))) (.row [⟨some 22,.bin .add (.t 11) (.c (.int .i64 1)),[],none⟩,⟨some 11,.mv (.t 22),[],none⟩]))))
def Lx(e sz bytes:Nat):DC:=(.seq (.row [⟨some 28,.bin .lss (.t 27) (.t 26),[],none⟩]) (.seq (.cond (.t 28) .skip (.exit 2)) (.seq (.block 3 (.seq (.row [⟨some 29,.iaddr 1 (.t 25) (.t 27),[],none⟩,⟨some 30,.load none (.t 29),[],none⟩,⟨some 8,.mv (.t 30),[],none⟩]) (.row [⟨some 31,.mv (.t 6),[],none⟩,⟨some 32,.mv (.t 8),[],none⟩,⟨some 33,.app e sz bytes (.t 31) (.t 32),[],none⟩,⟨some 6,.mv (.t 33),[],none⟩]))) (.row [⟨some 34,.bin .add (.t 27) (.c (.int .i64 1)),[],none⟩,⟨some 27,.mv (.t 34),[],none⟩]))))
def F_(pt e sz bytes gf:Nat):DC:=(.seq (.row [⟨some 2,.mv (.c (.slice true [] [])),[],none⟩]) (.seq (.row [⟨some 3,.mv (.c (.int .i64 0)),[],none⟩]) (.seq (.seq (.row [⟨some 9,.mv (.t 0),[],none⟩,⟨some 10,.len false (.t 9),[],none⟩,⟨some 11,.mv (.c (.int .i64 0)),[],none⟩]) (.block 0 (.loop (Ly pt)))) (.seq (.row [⟨some 23,.mv (.t 3),[],none⟩,⟨some 24,.call (.c (.fn gf [])) [(.c (.slice true [] [])),(.t 23)],[],none⟩,⟨some 6,.mv (.t 24),[],none⟩]) (.seq (.seq (.row [⟨some 25,.mv (.t 0),[],none⟩,⟨some 26,.len false (.t 25),[],none⟩,⟨some 27,.mv (.c (.int .i64 0)),[],none⟩]) (.block 2 (.loop (Lx e sz bytes)))) (.seq (.row [⟨some 35,.mv (.t 6),[],none⟩,⟨some 2,.mv (.t 35),[],none⟩]) .ret))))))
def zJ{pt:Nat}{S:Gz}{ns:Id}{L:List D}{nl:Bool}{t:Id}{Q:Ex->St->Prop}(m:L.length<=1000)(e:L.all aF9=true)
  (i:∀(v:St),v.s 0= .slice nl t L->v.s 3= .int .i64 (EN L:Nat)->Q (.exit 0) v):
  ∀(R:List D)(k a:Nat) v g,L.drop k=R->k<=L.length->a+EN R=EN L->EN L<=1000000->v.s 0= .slice nl t L->v.s 9= .slice nl t L->v.s 10= .int .i64 (L.length:Nat)->v.s 11= .int .i64 (k:Nat)->v.s 3= .int .i64 (a:Nat)->
   A9 S ns (Ly pt) Q v g:=by
 intro R;induction R with
 |nil=>
  intro k a v g p w j u f h9 z qa o;refine Af (Ly.eq_1 pt) ?_;have r:L.length<=k:=XN
  have:¬((k:Int)<L.length):=O
  simp only[↓C2,GD,GN,reduceIte,Qe,z,qa,this];refine i _ ?_ ?_
  ·simp only[↓C2,reduceIte,Qd,f]
  ·simp only[↓C2,reduceIte,Qd,o];simp only[EN]at j;rw[←j];rfl
 |cons x R ih=>
  intro k a v g p w j u f h9 z qa o;refine Af (Ly.eq_1 pt) ?_;have ma:k<L.length:=by
   grind
  have pa:L[k]?=some x:=by
   have:=congrArg (·[0]?) p;simpa using this
  have q:aF9 x=true:=Qt.1 e x (Qr pa);have sa:L.drop (k+1)=R:=by
   rw[←ZE,p];rfl
  match x,q with
  | .slice nl' t' xs,_=>
   have y:((k:Int)<L.length):=O
   have oa:(0:Int)<=(k:Int):=O
   have c:L[(k:Int).toNat]?=some (.slice nl' t' xs):=by simpa using pa
   simp only[EN]at j;have w1:IntKind.i64.wrap ((a:Int)+(xs.length:Int))=((a+xs.length:Nat):Int):=Yi
   have w2:IntKind.i64.wrap ((k:Int)+1)=((k+1:Nat):Int):=Yi
   have b:¬(((a+xs.length:Nat):Int)<0):=O
   simp only[↓C2,GA,reduceIte,Qd,Qe,h9,z,qa,o,y,oa,c,w1,w2,b];exact ih (k+1) (a+xs.length) _ _ sa O O u f h9 z rfl rfl
def zI{e sz bytes:Nat}(ka:bytes<=1000000){S:Gz}{ns:Id}{L:List D}{nl0:Bool}{t0:Id}{Q:Ex->St->Prop}(f:L.length<=1000)
  (i:∀(v:St)(nl:Bool)(t:Id)(ys:List D),ES L=some ys->v.s 6= .slice nl t ys->(nl=true->ys=[])->I1 v.m e (.slice nl t ys)->Q (.exit 2) v):
  ∀(R:List D)(k:Nat)(p zs:List D)(nl:Bool)(t:Id) v g,L.drop k=R->k<=L.length->ES R=some zs->ES L=some (p++zs)->(p++zs).all (dP sz)=true->(p++zs).length<=100000->
   (nl=true->p=[])->I1 v.m e (.slice nl t p)->
   v.s 6= .slice nl t p->v.s 25= .slice nl0 t0 L->v.s 26= .int .i64 (L.length:Nat)->v.s 27= .int .i64 (k:Nat)->
   A9 S ns (Lx e sz bytes) Q v g:=by
 intro R;induction R with
 |nil=>
  intro k p zs nl t v g hd hk j hL a w na z h6 q b u;refine Af (Lx.eq_1 e sz bytes) ?_;have r:L.length<=k:=by simpa using hd
  have:¬((k:Int)<L.length):=O
  simp only[ES,Qb]at j;subst j;simp only[↓C2,GD,GN,reduceIte,Qe,b,u,this];refine i _ nl t p (by simpa using hL) ?_ na z;simp only[↓C2,reduceIte,Qd,h6]
 |cons x R ih=>
  intro k p zs nl t v g hd hk j hL a w na z h6 q b u;refine Af (Lx.eq_1 e sz bytes) ?_;have ma:k<L.length:=by
   grind
  have pa:L[k]?=some x:=by
   have:=congrArg (·[0]?) hd;simpa using this
  have sa:L.drop (k+1)=R:=by
   rw[←ZE,hd];rfl
  unfold ES at j;split at j
  ·rename_i ia;cases ia
  ·rename_i nl' t' xs R' ia;cases ia;rw[Ql]at j;obtain⟨d,ua,rfl⟩:=j;have y:((k:Int)<L.length):=by omega
   have oa:(0:Int)<=(k:Int):=O
   have c:L[(k:Int).toNat]?=some (.slice nl' t' xs):=by simpa using pa
   have w2:IntKind.i64.wrap ((k:Int)+1)=((k+1:Nat):Int):=Yi
   simp only[↓C2,GA,reduceIte,Qd,Qe,h6,q,b,u,y,oa,c];have n:(if nl=true then xs else p++xs)=p++xs:=B0 na;refine aG (λo=>?_) (λo=>?_)
   ·obtain⟨rfl,rfl⟩:=o;obtain rfl:=na rfl;simp only[↓C2,GD,Hp,reduceIte,Qd,Qe,u,w2];exact ih (k+1) [] d true [] _ _ sa O ua (by simpa using hL) XP XL (λ_=>rfl) (.inl rfl) rfl q b rfl
   ·have eb:xs.all (dP sz)=true:=by
     rw[Zs,Zs]at a;simp only[Q3]at a;exact a.2.1
    refine As.intro ⟨aVF ka (by simp only[Q6]at w;omega),gM eb,z⟩ ?_;rw[n];simp only[↓C2,GD,Hp,reduceIte,Qd,Qe,u,w2];refine ih (k+1) (p++xs) d false _ _ _ sa O ua (by simpa using hL) XP XL (λh=>Xd) (.inr ⟨aAL,U⟩) rfl q b rfl
  ·cases j
def S9(sz:Nat):List D->Option (List D)
 |[.slice _ _ L]=>match ES L with
  |some ys=>if L.length<=1000∧0<ys.length∧ys.length<=100000∧ys.all (dP sz)=true then some ys else none
  |none=>none
 |_=>none
def PU{P:Program}{f gf pt e sz bytes:Nat}(n:bytes<=1000000){S:Gz}(w:S gf=some (Dz e)){L ys:List D}{nl:Bool}{t:Id}(k:ES L=some ys)(c1:L.length<=1000)(c2:0<ys.length)(b:ys.length<=100000)(x:ys.all (dP sz)=true)
  {R:D->GB->Prop} (j:∀t m,I1 m e (.slice false t ys)->R (.slice false t ys) m):(F_ pt e sz bytes gf).wp S [] (DW [.t 2] R) ⟨BE [.slice nl t L],λ_ _=>none,0⟩:=by
 obtain⟨hl,u⟩:=bT k;unfold F_;simp only[↓C2,GD,reduceIte,Qd,Qe];refine zJ c1 u (λv o p=>?_) L 0 0 _ _ rfl O U O rfl rfl rfl rfl rfl;simp only[↓C2,GD,GN,reduceIte,Qe,p];rw[AE w];have hg:(Dz e).ex ([D.slice true [] [],D.int IntKind.i64 (EN L:Nat)]++[]) v.m [v.c+1]=some (.slice false [0,v.c+1] [],[([0,v.c+1],0,[.tok (e+1)])]):=by
  grind [Dz]
 refine aI hg ?_;simp only[↓C2,GD,reduceIte,Qd,Qe,o];refine zI n c1 (λq nl' s zs i y g z=>?_) L 0 [] ys false _ _ _ rfl O k (by simpa using k) (by simpa using x) (by simpa using b) (λh=>Xd) (.inr ⟨?_,U⟩) rfl o rfl rfl
 ·rw[k]at i;simp only[Qb]at i;subst i;have a:nl'=false:=by
   grind
  subst a;simp only[↓C2,GD,reduceIte,Qd,Qe,y];exact j _ _ z
 ·simp[BG]
section
variable{P:Program}{f gf pt e sz bytes:Nat}
def Ro{ds ys:List D}(h:S9 sz ds=some ys):∃nl t L,ds=[.slice nl t L]∧ES L=some ys∧L.length<=1000∧0<ys.length∧ys.length<=100000∧ys.all (dP sz)=true:=by
 unfold S9 at h;split at h
 ·grind
 ·cases h
def gS(gf e:Nat):Gz:=λf=>if f=gf then some (Dz e)else none
def aJw(o:(Dz e).ok P gf):Gz.ok P (gS gf e):=by
 intro f q h;unfold gS at h;split at h
 ·simp_all
 ·cases h
def aGA(s:Fn P f 36 (F_ pt e sz bytes gf) [.t 2])(n:bytes<=1000000)(o:(Dz e).ok P gf):(H8 λds=>(S9 sz ds).bind λys=>if(flat ys).all D.plain=true then some ys else none).ok P f:=by
 refine xZ (aJw o) s (λds r h=>?_) (λds r h=>?_)
 ·rw[QC]at h;obtain⟨ys,h,_⟩:=h;obtain⟨nl,t,L,rfl,_⟩:=Ro h;simp
 ·rw[QC]at h;obtain⟨ys,h,y⟩:=h;split at y
  ·rename_i g;simp only[Qb]at y;subst y;obtain⟨nl,t,L,rfl,w,c1,p,b,c4⟩:=Ro h;refine⟨λx q=>Qt.1 g x q,PU (P:=P) (f:=f) n (by simp[gS]) w c1 p b c4 λt m z=>?_⟩;rcases z with h|⟨u,y⟩
   ·cases h
   ·exact⟨t,e,rfl,y,u⟩
  ·cases y
def nD(s:Fn P f 36 (F_ pt e sz bytes gf) [.t 2])(n:bytes<=1000000)(o:(Dz e).ok P gf){F:List D->Option D}
  (g:∀ds r,F ds=some r->∃nl t L ys,ds=[.slice nl t L]∧ES L=some ys∧L.length<=1000∧0<ys.length∧ys.length<=100000∧ys.all (dP sz)=true∧r= .slice false [] ys):(Ac F).ok P f:=by
 refine AL (aJw o) s (λds r h=>?_) (λds r h=>?_)
 ·grind
 ·obtain⟨nl,t,L,ys,rfl,w,c1,p,b,u,rfl⟩:=g ds r h;exact PU (P:=P) (f:=f) n (by simp[gS]) w c1 p b u λt m z=>⟨rfl,rfl⟩
end
def Fv(n:Nat):UInt8:=if n<10 then UInt8.ofNat (48+n)else UInt8.ofNat (87+n)
def BQ(s:List UInt8):List UInt8:=s.flatMap λb=>[Fv (b.toNat / 16),Fv (b.toNat % 16)]
theorem hexB_len:∀s:List UInt8,(BQ s).length=2*s.length
 |[]=>rfl
 |b::r=>by
  have:=hexB_len r;simp only[BQ,List.flatMap_cons,Q6,Qh,Qk]at this ⊢;omega
def ET(a b:List UInt8):AF (a++b)=AF a++AF b:=by simp[AF]
def Ci(a:List UInt8):(AF a).length=a.length:=by simp[AF]
def CZ:∀a:List UInt8,BB (AF a)=some a
 |[]=>rfl
 |c::r=>by
  have h:=c.toNat_lt;show(BB (AF r)).map _=_;rw[CZ r];simp
def PD:∀n,n<16->([48,49,50,51,52,53,54,55,56,57,97,98,99,100,101,102]:List UInt8)[n]?=some (Fv n):=Xj
def aTU:∀n:Nat,n<256->bits .and .u8 (n:Int) 15=((n % 16:Nat):Int):=Xj
def aUN:∀n:Nat,n<256->(n:Int).fdiv (2 ^ min (4:Int).toNat IntKind.u8.bits)=((n / 16:Nat):Int):=Xj
def qX(s:List UInt8)(c:UInt8):BQ (s++[c])=BQ s++[Fv (c.toNat / 16),Fv (c.toNat % 16)]:=by simp[BQ]
def CA:List (List UInt8)->Nat
 |[]=>0
 |w::r=>w.length+CA r
def Rq(m:GB)(i:Id):Nat->Nat->Option (List (List UInt8))
 |0,_=>some []
 |f+1,j=>match m i j,Rq m i f (j+1)with
  |some (.str p),some l=>some (p::l)
  |_,_=>none
def R4{m:GB}{i:Id}:∀{f j:Nat} {xs:List (List UInt8)},Rq m i f j=some xs->xs.length=f∧∀k x,xs[k]?=some x->m i (j+k)=some (.str x)
 |0,j,xs,h=>by
  simp only[Rq,Qb]at h;subst h;exact⟨rfl,U⟩
 |f+1,j,xs,h=>by
  unfold Rq at h;split at h
  ·rename_i p l v z;simp only[Qb]at h;subst h;obtain⟨t,r⟩:=R4 z;refine⟨by simp[t],λk x q=>?_⟩;cases k with
   |zero=>simp only[Qg,Qb]at q;subst q;exact v
   |succ k=>
    have:=r k x Xw;rw[show j+1+k=j+(k+1)by omega]at this;exact this
  ·cases h
def Vx{m m':GB}{i:Id}:∀{f j n:Nat},j+f<=n->(∀o,o<n->m i o=m' i o)->Rq m i f j=Rq m' i f j
 |0,j,n,_,_=>rfl
 |f+1,j,n,hn,h=>by
  unfold Rq;rw[h j O,Vx (f:=f) (j:=j+1) O h]
def kL{m:GB}{i:Id}:∀{xs:List (List UInt8)} {j:Nat},(∀k x,xs[k]?=some x->m i (j+k)=some (.str x))->Rq m i xs.length j=some xs
 |[],j,_=>rfl
 |x::r,j,h=>by
  have f:=h 0 x rfl;have n:=kL (xs:=r) (j:=j+1) (λk y o=>by have:=h (k+1) y (by simpa using o);rw[show j+1+k=j+(k+1)by omega];exact this);simp only[Qh,Rq,Q8]at f ⊢;rw[f,n]
def Bu:List (List UInt8)->List UInt8
 |[]=>[]
 |[w]=>w
 |w::v::r=>w++44::Bu (v::r)
def FU:∀l:List (List UInt8),(Bu l).length<=CA l+l.length
 |[]=>by simp[Bu]
 |[w]=>by simp[Bu,CA]
 |w::v::r=>by
  have:=FU (v::r);simp only[Bu,Q6,Qh,CA]at this ⊢;omega
def PA:∀l:List (List UInt8),Lib.join l [44]=Bu l
 |[]=>rfl
 |[w]=>Lib.join_one w [44]
 |w::v::r=>by
  have ih:=PA (v::r);rw[Lib.join_cons]at ih;rw[Lib.join_cons,Bu,←ih];simp[Lib.joinTail]
def SB:G8 where
 rd:=λds _=>match ds with
  |[.row i n,_]=>(List.range n).map λo=>(i,o)
  |_=>[]
 ex:=λds m _=>match ds with
  |[.row i n,.str [44]]=>(Rq m i n 0).bind λl=>if l.length<=1000∧CA l<=1000000 then some (.str (Bu l),[])else none
  |_=>none
def aAs {P:Program} {ρ:Go.Shelf.Ren} (L:Go.Proofs.Lays.n156 P ρ) (X:Go.Proofs.Builder.Extra P ρ) (fa:∃fn,P.funcs[ρ.f 156]?=some fn∧fn.body.isSome=true∧(fn.name== "runtime.NumGoroutine")=false):SB.ok P (ρ.f 156):=by
 refine⟨fa,λds m m' fr h=>?_,?_⟩
 ·simp only[SB]at h ⊢;split
  ·rename_i i n;simp only at h;rw[Vx (m:=m) (m':=m') (n:=n) O λo ho=>h (i,o) (QZ.2 ⟨o,by simpa using ho,rfl⟩)]
  ·rfl
 intro B w0 w m g fr ds vs r u hi ia hl s y;simp only[SB]at y;split at y
 ·rename_i i n;rw[QC]at y;obtain⟨l,ja,y⟩:=y;split at y
  ·rename_i hc;obtain⟨c1,c2⟩:=hc;simp only[Qb,Qs]at y;obtain⟨rfl,rfl⟩:=y
   match vs,hl with
   |[v,v1],_=>
    have e:=s 0 _ v rfl rfl;have q:=s 1 _ v1 rfl rfl;rw[q.str_inv];obtain⟨b,c,rfl,wa,hb⟩:=e.row_inv;obtain⟨d,pa⟩:=R4 ja;obtain⟨ib,lb,cur,T,a,oa⟩:=hi.obj i b hb;have ga:∀(j:Nat) z,l[j]?=some z->w.cell? ⟨b,0+j,none⟩=some (.string ⟨z.toArray⟩):=by
     intro j z hz;have t:=pa j z hz;rw[Qm]at t;obtain⟨v',r1,r2,r3⟩:=oa j _ t;rw[r3.str_inv]at r1;simp[World.cell?,a,r1]
    have k:(l.map λx=>(⟨x.toArray⟩:ByteArray)).map (·.data.toList)=l:=Yu
    have hj:(⟨#[44]⟩:ByteArray).data.toList=[44]:=rfl;have ra:=FU l;have:=Go.Proofs.Any.strings_Join L X b 0 c (l.map λx=>(⟨x.toArray⟩:ByteArray)) ⟨#[44]⟩ w (λj x p=>by
     rw[QN,Ql]at p;obtain⟨z,hz,rfl⟩:=p;exact ga j z hz) (hi.lt hb) Xc Xc (by rw[k,hj,PA];omega)
    rw[k,hj,PA,Qy,d]at this;refine this.mono ?_;rintro ev w' ⟨rfl,hb⟩;exact⟨_,g.over w w',rfl,hi.over hb,GY.over hi.gz hb,.str _,λi hf _=>hf⟩
  ·cases y
 ·cases y
section
variable{P:Program}{B:Nat}{w0:World}{N:Nat}{ns:Id}{S:Gz}{t:Nat}
end
section
variable{P:Program}{S:Gz}{f:FuncId}{N:Nat}{dc a b:DC}{rs:List RV}{code:Code}
end
section
variable{P:Program}{B:Nat}{w0 w:World}{m:GB}{g g0:Gh}{N:Nat}
end
section
variable{P:Program}{B:Nat}{w0:World}{N:Nat}{S:Gz}
end
def BT(m:GB)(e:Nat)(nl:Bool)(t:Id)(emp:Bool):Bool:=
 if nl=true then emp else match m t 0 with
  |some (.tok k)=>k==e+1&&!t.isEmpty
  |_=>false
def PH{m:GB}{e:Nat}{nl:Bool}{t:Id}{emp:Bool}{xs:List D}(h:BT m e nl t emp=true):I1 m e (.slice nl t xs):=by
 unfold BT at h;split at h
 ·rename_i f;exact .inl f
 ·split at h
  ·rename_i k u;simp only[Q3,beq_iff_eq]at h;rw[h.1]at u;exact .inr ⟨u,by intro e;rw[e]at h;simp at h⟩
  ·cases h
theorem D9{m m':GB}{e:Nat}{nl:Bool}{t:Id}{emp:Bool}(h:m t 0=m' t 0):BT m e nl t emp=BT m' e nl t emp:=by
 unfold BT;rw[h]
def WG{m m':GB}{e:Nat}{nl:Bool}{t:Id}{emp:Bool}{xs:List D}(h:BT m e nl t emp=true)(a:nl=false->m t 0=some (.tok (e+1))->m' t 0=m t 0):I1 m' e (.slice nl t xs):=by
 rcases PH (xs:=xs) h with h0|⟨u,y⟩
 ·exact .inl h0
 ·cases nl with
  |true=>exact .inl rfl
  |false=>exact .inr ⟨by rw[a rfl u];exact u,y⟩
def EB{m:GB}{e:Nat}{nl:Bool}{t:Id}{emp:Bool}(h:BT m e nl t emp=true):nl=false->m t 0=some (.tok (e+1)):=by
 rintro rfl;rcases PH (xs:=[]) h with h0|⟨u,y⟩
 ·cases h0
 ·exact u
theorem C7{m:GB}{e:Nat}{f t i:Id}{nl:Bool}{xs:List D}{o:Nat}:GF.app m (Bc e f (.slice nl t xs)) i o=if i=f∧o=0 then some (.tok (e+1))else if nl=false∧i=t∧o=0 then some (.tok 0)else m i o:=by
 cases nl<;>simp[Bc,GF.app,BG]
def H_{n:Nat}(h:n<256):(UInt8.ofNat n).toNat=n:=by simp[UInt8.toNat_ofNat'];omega
def Te(n:Int):IntKind.u8.wrap n=(((n % 256).toNat:Nat):Int):=by
 have u:IntKind.u8.wrap n=n % 256:=Yv
 rw[u];omega
structure Gd (e:Nat) (fr:Id) (m0:GB) (nl0:Bool) (t0:Id) (m:GB) (c:Nat) (t:Id):Prop where
 name:∃l j,t=l++j::fr∧j<c
 tok:m t 0=some (.tok (e+1))
 out:∀i o,¬fr<:+i->m i o=(if nl0=true then m0 else m0.put t0 0 [.tok 0]) i o
def Gs(e:Nat)(fr:Id)(m0:GB)(nl0:Bool)(t0:Id)(m:GB)(c:Nat)(nl:Bool)(t:Id):Prop:=
 (nl=nl0∧t=t0∧∀i o,¬fr<:+i->m i o=m0 i o)∨(nl=false∧Gd e fr m0 nl0 t0 m c t)
def eH(l:List Nat)(j:Nat)(fr:Id):fr<:+l++j::fr:=⟨l++[j],U⟩
theorem aR6{l q:List Nat}{j k:Nat}{fr:Id}(h:j≠k):l++j::fr≠q++k::fr:=by
 intro e;have x:=congrArg List.reverse e;simp only[List.reverse_append,List.reverse_cons,Zc,List.append_cancel_left_eq]at x;simp only[Zd,Q_,Qn]at x;exact h x.1
section
variable{e:Nat}{fr:Id}{m0 m:GB}{nl0 nl:Bool}{t0 t:Id}{c c' k o:Nat}{l:List Nat}{xs ds:List D}{emp:Bool}
def Gs.start:Gs e fr m0 nl0 t0 m0 c nl0 t0:= .inl ⟨rfl,rfl,λ_ _ _=>rfl⟩
def Gd.gs(h:Gd e fr m0 nl0 t0 m c t):Gs e fr m0 nl0 t0 m c false t:= .inr ⟨rfl,h⟩
def Gd.more(h:Gd e fr m0 nl0 t0 m c t)(o:c<=c'):Gd e fr m0 nl0 t0 m c' t:=⟨by obtain⟨l,j,b,v⟩:=h.name;exact⟨l,j,b,O⟩,h.tok,h.out⟩
def Gs.more(h:Gs e fr m0 nl0 t0 m c nl t)(o:c<=c'):Gs e fr m0 nl0 t0 m c' nl t:=h.imp id (λ⟨a,b⟩=>⟨a,b.more o⟩)
def lH(x:∀i o,fr<:+i->m0 i o=none)(h:m0 t0 0=some (.tok (e+1))):¬fr<:+t0:=λr=>by rw[x _ _ r]at h;cases h
def TJ(i:Id)(o':Nat)(hi:¬fr<:+i):m.put (l++k::fr) o ds i o'=m i o':=aA (λe=>hi (e▸eH l k fr))
def Gd.put(h:Gd e fr m0 nl0 t0 m c t)(s:c<=k:=by omega):Gd e fr m0 nl0 t0 (m.put (l++k::fr) o ds) c t:=by
 refine⟨h.name,?_,λi o' hi=>(TJ i o' hi).trans (h.out i o' hi)⟩;obtain⟨q,j,b,v⟩:=h.name;rw[aA]
 ·exact h.tok
 ·grind [aR6]
def Gs.put(h:Gs e fr m0 nl0 t0 m c nl t)(s:c<=k:=by omega):Gs e fr m0 nl0 t0 (m.put (l++k::fr) o ds) c nl t:=by
 rcases h with ⟨a,b,d⟩|⟨a,h⟩
 ·exact .inl ⟨a,b,λi o' hi=>(TJ i o' hi).trans (d i o' hi)⟩
 ·exact .inr ⟨a,h.put s⟩
def Gs.grow(h:Gs e fr m0 nl0 t0 m c nl t)(x:∀i o,fr<:+i->m0 i o=none)(f:BT m0 e nl0 t0 emp=true):I1 m e (.slice nl t xs):=by
 rcases h with ⟨rfl,rfl,d⟩|⟨a,h⟩
 ·exact WG f (λv z=>d _ _ (lH x z))
 ·obtain⟨q,j,b,u⟩:=h.name;exact .inr ⟨h.tok,by rw[b];simp⟩
def Gs.nil(h:Gs e fr m0 nl0 t0 m c nl t)(f:BT m0 e nl0 t0 emp=true):nl=true->emp=true:=by
 rcases h with ⟨rfl,rfl,d⟩|⟨a,_⟩
 ·grind [BT]
 ·rw[a];intro h;cases h
def Gs.app(h:Gs e fr m0 nl0 t0 m c nl t)(s:c<=k)(f:k<c'):Gd e fr m0 nl0 t0 (GF.app m (Bc e (l++k::fr) (.slice nl t xs))) c' (l++k::fr):=by
 refine⟨⟨l,k,rfl,f⟩,by rw[C7,if_pos ⟨rfl,rfl⟩],λi o hi=>?_⟩;have y:i≠l++k::fr:=λe=>hi (e▸eH l k fr)
 rw[C7,if_neg (λx=>y x.1)];rcases h with ⟨rfl,rfl,d⟩|⟨rfl,h⟩
 ·grind [BG]
 ·obtain⟨q,j,b,v⟩:=h.name;have u:i≠t:=λe=>hi (by rw[e,b];exact eH q j fr)
  rw[if_neg (λx=>u x.2.1)];exact h.out i o hi
def Gd.fin(h:Gd e fr m0 nl0 t0 m c t)(n:∀i o,fr<:+i->m0 i o=none)(f:BT m0 e nl0 t0 emp=true):∀i o x,GF.app m0 (Bc e t (.slice nl0 t0 xs)) i o=some x->m i o=some x:=by
 intro i o x q;rw[C7]at q;by_cases u:i=t∧o=0
 ·rw[if_pos u]at q;rw[u.1,u.2,h.tok];exact q
 ·rw[if_neg u]at q;by_cases y:nl0=false∧i=t0∧o=0
  ·obtain⟨rfl,rfl,rfl⟩:=y;rw[if_pos ⟨rfl,rfl,rfl⟩]at q;rw[h.out _ _ (lH n (EB f rfl)),if_neg U,BG,if_pos ⟨rfl,rfl⟩];exact q
  ·rw[if_neg y]at q;by_cases hi:fr<:+i
   ·simp_all
   ·rw[h.out i o hi];cases nl0 with
    |true=>exact q
    |false=>simp only[QS,if_false,BG];rw[if_neg (λx=>y ⟨rfl,x⟩)];exact q
end
def IM{P:Program}{S:Gz}{f:FuncId}{N:Nat}{dc:DC}{rs:List RV}(hS:Gz.ok P S)(hf:Fn P f N dc rs){q:G8}(da:∀ds m m' fr,(∀l∈q.rd ds m,m l.1 l.2=m' l.1 l.2)->q.ex ds m fr=q.ex ds m' fr)
  (hq:∀ds m fr r u,q.ex ds m fr=some (r,u)->(∀i o,fr<:+i->m i o=none)->ds.length<=N∧dc.wp S fr (DW rs λd m'=>d=r∧∀i o x,GF.app m u i o=some x->m' i o=some x) ⟨BE ds,m,0⟩):q.ok P f:=by
 obtain⟨fn,j,y,h2,p,h4,h5,h6⟩:=hf.is;refine⟨⟨fn,y,by rw[h2];rfl,p⟩,da,?_⟩;intro B w0 w m g fr ds vs r u hi ia hl b z;have n:∀k i,(k::fr)<:+i->BU m g i:=λk i h=>ia i ((QI k fr).trans h)
 obtain⟨hN,za⟩:=hq ds m fr r u z (λi o h=>(ia i h).1 o);have ja:=F5 (ns:=fr) hS hf hN hi n hl b za;refine ja.mono ?_;rintro e c ⟨v,d,m',g',rfl,s,ma,t,ya,rfl,ta⟩;refine⟨v,g',rfl,s.less ta,ma,ya,λi hf a=>?_⟩;obtain⟨k1,k2,k3⟩:=t i hf a;refine⟨λo=>?_,k2,k3⟩;cases hx:GF.app m u i o with
 |none=>rfl
 |some x=>exact absurd (k1 o) (by rw[ta i o x hx];simp)
def gQ(e:Nat)(F:List D->Option (List D×List Nat)):G8 where
 rd:=λds _=>match ds with
  | .slice _ t _::_=>[(t,0)]
  |_=>[]
 ex:=λds m fr=>match ds with
  | .slice nl t xs::rest=>if BT m e nl t xs.isEmpty=true∧xs.length<=100000000 then(F rest).map λy=>(.slice false (y.2++fr) (xs++y.1),Bc e (y.2++fr) (.slice nl t xs))else none
  |_=>none
def aOi{e:Nat}{F:List D->Option (List D×List Nat)}(ds:List D)(m m':GB)(fr:Id)(h:∀l∈(gQ e F).rd ds m,m l.1 l.2=m' l.1 l.2):(gQ e F).ex ds m fr=(gQ e F).ex ds m' fr:=by
 simp only[gQ]at h ⊢;split
 ·rename_i nl t xs r;rw[D9 (h (t,0) U)]
 ·rfl
def aOj{e:Nat}{F:List D->Option (List D×List Nat)}{ds:List D}{m:GB}{fr:Id}{d:D}{u:GF}(h:(gQ e F).ex ds m fr=some (d,u)):
  ∃nl t xs r ys l,ds= .slice nl t xs::r∧BT m e nl t xs.isEmpty=true∧xs.length<=100000000∧F r=some (ys,l)∧d= .slice false (l++fr) (xs++ys)∧u=Bc e (l++fr) (.slice nl t xs):=by
 simp only[gQ]at h;split at h
 ·rename_i nl t xs r;split at h
  ·rename_i s;rw[Ql]at h;obtain⟨⟨ys,l⟩,g,h⟩:=h;simp only[Qs]at h;exact⟨nl,t,xs,r,ys,l,rfl,s.1,s.2,g,h.1.symm,h.2.symm⟩
  ·cases h
 ·cases h
def aJu{e:Nat}{F:List D->Option (List D×List Nat)}{m:GB}{fr:Id}{nl:Bool}{t:Id}{xs r ys:List D}{l:List Nat}{K:D×GF->Prop}{g}(h0:I1 m e (.slice nl t xs))(a:nl=true->xs=[])(hl:xs.length<=100000000)(n:F r=some (ys,l))
  (h:K (.slice false (l++fr) (xs++ys),Bc e (l++fr) (.slice nl t xs))):GQ ((gQ e F).ex (.slice nl t xs::r) m fr) K g:=by
 refine aI ?_ h;have o:BT m e nl t xs.isEmpty=true:=by
  unfold BT;cases nl with
  |true=>rw[if_pos rfl,a rfl];rfl
  |false=>
   rcases h0 with h0|⟨u,y⟩
   ·cases h0
   ·simp_all
 simp only[gQ];rw[if_pos ⟨o,hl⟩,n];rfl
def dS:Nat->Int->List UInt8
 |0,_=>[]
 |k+1,n=>UInt8.ofNat ((n.fdiv (2 ^ (8*k))) % 256).toNat::dS k n
theorem beB_len:∀k n,(dS k n).length=k
 |0,_=>rfl
 |k+1,n=>by simp[dS,beB_len k n]
def Gj:D->Bool
 | .int .u8 _=>true
 |_=>false
def grownQ:G8 where
 rd:=λ_ _=>[]
 ex:=λds _ fr=>match ds with
  |[.slice _ _ xs,.int .i64 k]=>if 0<=k∧xs.all Gj=true∧(xs.length:Int)+k<=140737488355328 then some (.slice false (0::fr) xs,[(0::fr,0,[.tok 6])])else none
  |_=>none
def cQ(e:Nat)(wr:D->D)(F:List D->Option (List D×List Nat)):G8 where
 rd:=λ_ _=>[]
 ex:=λds _ fr=>match ds with
  | .slice _ _ xs::rest=>if xs.all Gj=true∧xs.length<=100000000 then(F rest).map λy=>(wr (.slice false (y.2++fr) (xs++y.1)),[(y.2++fr,0,[.tok (e+1)])])else none
  |_=>none
def aOF{e:Nat}{wr:D->D}{F:List D->Option (List D×List Nat)}{ds:List D}{m:GB}{fr:Id}{d:D}{u:GF}(h:(cQ e wr F).ex ds m fr=some (d,u)):
  ∃nl t xs r ys l,ds= .slice nl t xs::r∧xs.all Gj=true∧xs.length<=100000000∧F r=some (ys,l)∧d=wr (.slice false (l++fr) (xs++ys))∧u=[(l++fr,0,[.tok (e+1)])]:=by
 simp only[cQ]at h;split at h
 ·rename_i nl t xs r;split at h
  ·rename_i s;rw[Ql]at h;obtain⟨⟨ys,l⟩,g,h⟩:=h;simp only[Qs]at h;exact⟨nl,t,xs,r,ys,l,rfl,s.1,s.2,g,h.1.symm,h.2.symm⟩
  ·cases h
 ·cases h
def aJv{e:Nat}{wr:D->D}{F:List D->Option (List D×List Nat)}{m:GB}{fr:Id}{nl:Bool}{t:Id}{xs r ys:List D}{l:List Nat}{K:D×GF->Prop}{g}(j:xs.all Gj=true)(hl:xs.length<=100000000)(n:F r=some (ys,l))
  (h:K (wr (.slice false (l++fr) (xs++ys)),[(l++fr,0,[.tok (e+1)])])):GQ ((cQ e wr F).ex (.slice nl t xs::r) m fr) K g:=by
 refine aI ?_ h;simp only[cQ];rw[if_pos ⟨j,hl⟩,n];rfl
def ST(a:List UInt8):(AF a).all Gj=true:=by
 rw[Qt];intro x q;obtain⟨c,_,rfl⟩:=QZ.1 q;rfl
def Gd.finc{e:Nat}{fr:Id}{m0 m:GB}{t0 t:Id}{c:Nat}(h:Gd e fr m0 true t0 m c t)(n:∀i o,fr<:+i->m0 i o=none):∀i o x,GF.app m0 [(t,0,[.tok (e+1)])] i o=some x->m i o=some x:=
 h.fin (emp:=true) (xs:=[]) n (by unfold BT;rfl)
def aAJ{m:GB}{fr:Id}{nl:Bool}{t:Id}{xs:List D}{k:Int}(s:0<=k)(j:xs.all Gj=true)(hl:(xs.length:Int)+k<=140737488355328):grownQ.ex [.slice nl t xs,.int .i64 k] m fr=some (.slice false (0::fr) xs,[(0::fr,0,[.tok 6])]):=by
 grind [grownQ]
def RZ{n:Int}(h:0<=n)(g:n<18446744073709551616):IntKind.u64.wrap n=n:=by
 have:IntKind.u64.wrap n=n % 18446744073709551616:=Yv
 rw[this];omega
def aFg(d:D):D:= .tup [d,.int .i64 0]
def mQ(n:Nat)(F:List D->List D->Option (D×List D)):G8 where
 rd:=λds _=>match ds with
  | .ptr i 0::_=>Ai i 0 n
  |_=>[]
 ex:=λds m _=>match ds with
  | .ptr i 0::rest=>match Ag m i 0 n with
   |some cs=>(F cs rest).map λy=>(y.1,[(i,0,y.2)])
   |none=>none
  |_=>none
def aNi{n:Nat}{F:List D->List D->Option (D×List D)}(ds:List D)(m m':GB)(fr:Id)(h:∀l∈(mQ n F).rd ds m,m l.1 l.2=m' l.1 l.2):(mQ n F).ex ds m fr=(mQ n F).ex ds m' fr:=by
 grind [mQ,BA]
def T8{n:Nat}{F:List D->List D->Option (D×List D)}{i:Id}{m:GB}{r:List D}{fr:Id}:(mQ n F).ex (.ptr i 0::r) m fr=(Ag m i 0 n).bind λcs=>(F cs r).map λy=>(y.1,[(i,0,y.2)]):=by
 grind [mQ,Ag]
def aNj{n:Nat}{F:List D->List D->Option (D×List D)}{ds:List D}{m:GB}{fr:Id}{r:D}{u:GF}(h:(mQ n F).ex ds m fr=some (r,u)):
  ∃i w cs k,ds= .ptr i 0::w∧Ag m i 0 n=some cs∧F cs w=some (r,k)∧u=[(i,0,k)]:=by
 simp only[mQ]at h;split at h
 ·rename_i i w;split at h
  ·rename_i cs q;rw[Ql]at h;obtain⟨y,g,h⟩:=h;simp only[Qs]at h;obtain⟨rfl,rfl⟩:=h;exact⟨i,w,cs,y.2,rfl,q,g,rfl⟩
  ·cases h
 ·cases h
section
variable{m m':GB}{i j:Id}{n o k:Nat}{cs ys:List D}{d:D}{fr:Id}
def Bi(h:Ag m i 0 n=some cs)(p:cs[k]?=some d):m i k=some d:=by
 grind [Bz]
def TB:∀{ds:List D} {m:GB} {p:Nat},(∀k d,ds[k]?=some d->m i (p+k)=some d)->Ag m i p ds.length=some ds
 |[],m,p,_=>rfl
 |x::r,m,p,h=>by
  have f:=h 0 x rfl;rw[Q8]at f;have u:=TB (ds:=r) (m:=m) (p:=p+1) (λk d t=>by
   have:=h (k+1) d (by simpa using t);rw[show p+(k+1)=p+1+k by omega]at this;exact this)
  simp only[Ag,Qh,f,u,QO]
def xQ(h:Ag m i 0 n=some cs)(s:o+k<=n):Ag m i o k=some ((cs.drop o).take k):=by
 obtain⟨u,y⟩:=Bz h;have hl:((cs.drop o).take k).length=k:=YD
 have:=TB (i:=i) (m:=m) (p:=o) (ds:=(cs.drop o).take k) (λq d r=>by
  rw[Zw]at r;split at r
  ·grind
  ·cases r)
 rw[hl]at this;exact this
def eS(h:Ag m i 0 n=some cs)(s:o+ys.length<=n):Ag (m.put i o ys) i 0 n=some (cs.take o++ys++cs.drop (o+ys.length)):=by
 obtain⟨u,y⟩:=Bz h;have hl:(cs.take o++ys++cs.drop (o+ys.length)).length=n:=by simp only[Q6,List.length_take,ZA];omega
 have:=TB (i:=i) (m:=m.put i o ys) (p:=0) (ds:=cs.take o++ys++cs.drop (o+ys.length)) (λq d r=>by
  rw[Qm];simp only[GB.put];have a:(cs.take o).length=o:=XC
  by_cases z:q<o
  ·have v:¬(True∧o<=q∧q<o+ys.length):=by omega
   first
    |rw[if_neg Xc]
    |skip
   rw[Zc,QU O,Zw,if_pos z]at r;exact Bi h r
  ·by_cases e:q<o+ys.length
   ·rw[if_pos Xc];rw[Zc,Q2 O,a,QU O]at r;exact r
   ·rw[if_neg Xc];rw[Zc,Q2 O,a,Q2 O,List.getElem?_drop]at r;rw[show o+ys.length+(q-o-ys.length)=q by omega]at r;exact Bi h r)
 rw[hl]at this;exact this
def E_(n:Nat)(i:Id)(m m':GB):Prop:=∀(j:Id)(o:Nat)(x:D),(j≠i∨n<=o)->m j o=some x->m' j o=some x
def E_.refl:E_ n i m m:=λ_ _ _ _ h=>h
def E_.own(h:E_ n i m m')(f:o+ys.length<=n):E_ n i m (m'.put i o ys):=λj p x z q=>by
 have u:=h j p x z q;simp only[GB.put];split
 ·grind
 ·exact u
def E_.new(ca:∀i o,fr<:+i->m i o=none)(l:List Nat)(h:E_ n i m m'):E_ n i m (m'.put (l++k::fr) o ys):=λj p x z q=>by
 have u:=h j p x z q;have c:j≠l++k::fr:=λe=>by
  rw[e,ca _ _ ⟨l++[k],U⟩]at q;cases q
 rw[aA c];exact u
def bJ(x:∀i o,fr<:+i->m i o=none)(h:E_ n i m m'):E_ n i m (m'.put (k::fr) o ys):=E_.new x [] h
end
theorem aVf {P : Program} {S : Gz} {f : FuncId} {N : Nat} {dc : DC} {rs : List RV} (hS : Gz.ok P S) (v : Fn P f N dc rs) {n : Nat} {F : List D → List D → Option (D × List D)} (g : 0 < n) (hN : ∀ cs w y, F cs w = some y → w.length + 1 ≤ N)
  (h : ∀ (i : Id) (m : GB) (fr : Id) (cs w : List D) (r : D) (da : List D), Ag m i 0 n = some cs → F cs w = some (r, da) → (∀ j o, fr <:+ j → m j o = none) → (∀ k l, (i = l ++ k :: fr) = False) → (∀ k, (i = k :: fr) = False) →
   dc.wp S fr (DW rs fun d m' => d = r ∧ Ag m' i 0 n = some da ∧ E_ n i m m') ⟨BE (.ptr i 0 :: w), m, 0⟩) : (mQ n F).ok P f := by
 refine IM hS v aNi (fun ds m fr r u z ca => ?_)
 obtain ⟨i, w, cs, da, rfl, la, hF, rfl⟩ := aNj z
 have ua : ∃ x, m i 0 = some x := by
  obtain ⟨q, h2⟩ := Bz la
  have := h2 0 g
  rw [Qc O] at this
  exact ⟨_, this⟩
 obtain ⟨x0, c⟩ := ua
 have ja : ∀ k l, (i = l ++ k :: fr) = False := fun k l => eq_false (fun e => by
  rw [e, ca _ _ ⟨l ++ [k], U⟩] at c
  cases c)
 refine ⟨hN _ _ _ hF, ?_⟩
 have hw := h i m fr cs w r da la hF ca ja (fun k => ja k [])
 refine LF hw (fun e ga he => ?_)
 obtain ⟨b, d, fa, rfl, s, ho⟩ := he
 refine ⟨b, d, fa, rfl, fun j o x p => ?_⟩
 obtain ⟨q, h2⟩ := Bz s
 have t : (m.put i 0 da) j o = some x := p
 by_cases hj : j = i
 ·subst hj
  by_cases a : o < n
  ·grind [GB.put]
  ·have ta : m j o = some x := by
    simp only [GB.put] at t
    rw [if_neg (by simp; omega)] at t
    exact t
   exact ho j o x (.inr O) ta
 ·rw [aA hj] at t
  exact ho j o x (.inl hj) t
section
variable{α:Type}{mk:α->List D}{ok:α->Prop}{res:α->D}
open Classical in
def FX(mk:α->List D)(ok:α->Prop)(res:α->D):List D->Option D:=λds=>if h:∃a,ok a∧mk a=ds then some (res (Classical.choose h))else none
def BV(inj:∀a b,mk a=mk b->a=b){a:α}(j:ok a):FX mk ok res (mk a)=some (res a):=by
 have h:∃b,ok b∧mk b=mk a:=⟨a,j,rfl⟩;unfold FX;rw[dif_pos h,inj _ _ (Classical.choose_spec h).2]
def Dc{ds:List D}{r:D}(h:FX mk ok res ds=some r):∃a,ok a∧mk a=ds∧res a=r:=by
 unfold FX at h;split at h
 ·grind
 ·cases h
def CS{P:Program}{S:Gz}{f:FuncId}{N:Nat}{x:DC}{rs:List RV}(w:Gz.ok P S)(s:Fn P f N x rs)(b:∀a,(mk a).length<=N)
  (g:∀a,ok a->x.wp S [] (DW rs λd _=>d.unR=res a∧(res a).calmR=true) ⟨BE (mk a),λ_ _=>none,0⟩):(Ac (FX mk ok res)).ok P f:=by
 refine AL w s (λds r h=>?_) (λds r h=>?_)
 ·obtain⟨a,_,rfl,_⟩:=Dc h;exact b a
 ·obtain⟨a,j,rfl,rfl⟩:=Dc h;exact g a j
end
def mkJ(p:List (List UInt8)×List UInt8):List D:=[.slice false [] (p.1.map .str),.str p.2]
def aFJ(x y:List (List UInt8)×List UInt8)(e:mkJ x=mkJ y):x=y:=by
 simp only[mkJ,Qn,D.slice.injEq,D.str.injEq,true_and,and_true]at e;exact ZR ((List.map_inj_right (λa b h=>Xp)).1 e.1) e.2
def aJG:∀l:List (List UInt8),flat (l.map D.str)=l.map D.str
 |[]=>rfl
 |x::r=>by
  have ih:=aJG r;simp only[Q0,flat,ih];rfl
def Wz:List D->Option D:=FX mkJ (λp=>p.1≠[]∧p.1.length<=1000∧CA p.1<=1000000∧p.2.length<=1000∧(Lib.join p.1 p.2).length<=10000000) (λp=> .str (Lib.join p.1 p.2))
def aAt {P:Program} {ρ:Go.Shelf.Ren} (L:Go.Proofs.Lays.n156 P ρ) (X:Go.Proofs.Builder.Extra P ρ) (fa:∃fn,P.funcs[ρ.f 156]?=some fn∧fn.body.isSome=true∧(fn.name== "runtime.NumGoroutine")=false):(Ac Wz).ok P (ρ.f 156):=by
 refine⟨fa,λds m m' fr _=>rfl,?_⟩;intro B w0 w m g fr ds vs r u hi ia hl ea q;simp only[Ac]at q;split at q
 ·rename_i la;rw[Ql]at q;obtain⟨r',hr,q⟩:=q;simp only[Qs]at q;obtain⟨rfl,rfl⟩:=q;obtain⟨⟨l,s⟩,⟨h1,h2,h3,h4,h5⟩,h,rfl⟩:=Dc hr;simp only at h1 h2 h3 h4 h5;have ca:∀(j:Nat) d v,(mkJ (l,s))[j]?=some d->vs[j]?=some v->Rep w g d v:=by
   intro j d v hd hv;rw[h,QN,Ql]at hd;obtain⟨d',ra,rfl⟩:=hd;exact(ea j d' v ra hv).un
  have ba:ds.length=2:=by
   have:=congrArg ZQ h;simpa[mkJ]using this.symm
  match vs,hl.trans ba with
  |[v,v1],_=>
   have r0:=ca 0 _ v rfl rfl;have r1:=ca 1 _ v1 rfl rfl;rw[r1.str_inv];obtain⟨ad,n,c,sz,ws,rfl,hn,wa,ka,ta,o,sa,_⟩:=r0.slice_list;have t:n=l.length:=by simpa using hn
   subst t;have nb:sz=1:=by
    cases l with
    |nil=>exact absurd rfl h1
    |cons x r=>exact(ka (.str x) U).symm
   subst nb;have na:=aJG l;rw[na]at o;have ga:∀(j:Nat) z,l[j]?=some z->w.cell? (ad.add j)=some (.string ⟨z.toArray⟩):=by
    intro j z hz;have hj:j<l.length:=(Qq.1 hz).1;have p:j<ws.length:=by rw[ta];omega
    have hd:(l.map D.str)[j]?=some (.str z):=by rw[QN,hz];rfl
    have:=o.2.2 j (.str z) ws[j] hd (Qc p);rw[sa j ws[j] (Qc p),this.str_inv]
   obtain⟨b,off,k⟩:=ad;have qa:0<l.length:=List.length_pos_iff.2 h1;have y:=ga 0 _ (Qc qa);have e:k=none:=by simpa[Addr.add]using World.cell?_spot y
   subst e;have a:b<w.heap.size:=by simpa[Addr.add]using World.block_lt_of_cell? _ _ y
   have da:(l.map λx=>(⟨x.toArray⟩:ByteArray)).map (·.data.toList)=l:=Yu
   have hj:(⟨s.toArray⟩:ByteArray).data.toList=s:=rfl;have:=Go.Proofs.Any.strings_Join L X b off c (l.map λx=>(⟨x.toArray⟩:ByteArray)) ⟨s.toArray⟩ w (λj x hx=>by
    rw[QN,Ql]at hx;obtain⟨z,hz,rfl⟩:=hx;have:=ga j z hz;rw[Fr]at this;exact this) a Xc Xc (by rw[da,hj];omega)
   rw[da,hj,Qy]at this;refine this.mono ?_;rintro ev w' ⟨rfl,hb⟩;exact⟨_,g.over w w',rfl,hi.over hb,GY.over hi.gz hb,.str _,λi hf _=>hf⟩
 ·cases q
section
variable{α:Type}{mk:α->List D×List D}{ok:α->Prop}{res:α->D×List D}
end
section
variable{α:Type}{mk:α->List D×List D}{ok:α->Prop}{res:α->D×Id×(Id->List D)}
end
def aNo{R:St->Ex->St->Prop}(w:∀v j o m x,R v j o->R v m x->j=m∧o=x):∀{n1 v j o},Lp R n1 v j o->∀{n2 m x},Lp R n2 v m x->j=m∧o=x:=by
 intro n1 v j o u;induction u with
 |stop v e q h c=>
  intro n2 m x y;cases y with
  |stop _ _ _ g _=>exact w _ _ _ _ _ h g
  |more n _ f _ _ g _=>exact absurd (w _ _ _ _ _ h g).1 c
 |more n v f e q h hl ih=>
  intro n2 m x y;cases y with
  |stop _ _ _ g c=>exact absurd (w _ _ _ _ _ h g).1.symm c
  |more a _ r _ _ g b=>
   have:=(w _ _ _ _ _ h g).2;subst this;exact ih b
def aOn{S:Gz}{ns:Id}:∀{x:DC} {v:St} {j:Ex} {s1:St} {m:Ex} {n:St},Ev S ns x v j s1->Ev S ns x v m n->j=m∧s1=n:=by
 intro x;induction x with
 |skip=>rintro v j s1 m n ⟨rfl,rfl⟩ ⟨rfl,rfl⟩;exact⟨rfl,rfl⟩
 |ret=>rintro v j s1 m n ⟨rfl,rfl⟩ ⟨rfl,rfl⟩;exact⟨rfl,rfl⟩
 |exit i=>rintro v j s1 m n ⟨rfl,rfl⟩ ⟨rfl,rfl⟩;exact⟨rfl,rfl⟩
 |row ops=>
  rintro v j ⟨a1,o,c1⟩ m ⟨t,f,p⟩ ⟨rfl,u,z⟩ ⟨rfl,y,w⟩;rw[u]at y;simp only[Qb,Qs]at y;simp only at z w;exact⟨rfl,by rw[y.1,y.2,z,w]⟩
 |drawn ops ps=>
  rintro v j ⟨a1,o,c1⟩ m ⟨t,f,p⟩ ⟨rfl,⟨q,u,_⟩,z⟩ ⟨rfl,⟨f2,y,_⟩,w⟩;rw[u]at y;simp only[Qb,Qs]at y;simp only at z w;exact⟨rfl,by rw[y.1,y.2.1,z,w]⟩
 |seq a b e d=>
  rintro v j s1 m n ⟨x1,y1,u,k1⟩ ⟨x2,y2,y,s⟩;obtain⟨rfl,rfl⟩:=e u y;rcases k1 with ⟨n1,k1⟩|⟨n1,rfl,rfl⟩<;>rcases s with ⟨n2,s⟩|⟨n2,rfl,rfl⟩
  ·exact d k1 s
  ·exact absurd n1 n2
  ·exact absurd n2 n1
  ·exact YV
 |cond c a b e d=>
  rintro v j s1 m n u y;rcases u with ⟨g,u⟩|⟨g,u⟩<;>rcases y with ⟨k,y⟩|⟨k,y⟩
  ·exact e u y
  ·rw[g]at k;simp at k
  ·rw[g]at k;simp at k
  ·exact d u y
 |block i c ih=>
  rintro v j s1 m n ⟨x1,u,k1⟩ ⟨x2,y,s⟩;obtain⟨rfl,rfl⟩:=ih u y;rcases k1 with ⟨n1,rfl⟩|⟨n1,rfl⟩<;>rcases s with ⟨n2,rfl⟩|⟨n2,rfl⟩
  ·exact YV
  ·exact absurd n1 n2
  ·exact absurd n2 n1
  ·exact YV
 |loop c ih=>
  rintro v j s1 m n ⟨n1,u⟩ ⟨n2,y⟩;exact aNo (R:=Ev S ns c) (λv j s1 m n h r=>@ih v j s1 m n h r) u y
def PO{S:Gz}{ns:Id}{x:DC}{rs:List RV}{e p:D->GB->Prop}{v:St}(u:x.wp S ns (DW rs e) v)(y:x.wp S ns (DW rs p) v):∃d m,e d m∧p d m:=by
 obtain⟨j,s,a,_,q,w,t⟩:=u;obtain⟨z,n,i,_,c,o,r⟩:=y;obtain⟨rfl,rfl⟩:=aOn a i;rw[w]at o;simp only[Qb]at o;subst o;exact⟨_,_,t,r⟩
def wV(S:Gz)(x:DC)(rs:List RV)(N:Nat)(ds:List D)(r:D):Prop:=ds.length<=N∧x.wp S [] (DW rs λd _=>d.unR=r∧r.calmR=true) ⟨BE ds,λ_ _=>none,0⟩
open Classical in
def RF(S:Gz)(x:DC)(rs:List RV)(N:Nat):List D->Option D:=λds=>if h:∃r,wV S x rs N ds r then some (Classical.choose h)else none
def xI{S:Gz}{x:DC}{rs:List RV}{N:Nat}{ds:List D}{r:D}(h:RF S x rs N ds=some r):wV S x rs N ds r:=by
 unfold RF at h;split at h
 ·grind
 ·cases h
def Al{S:Gz}{x:DC}{rs:List RV}{N:Nat}{ds:List D}{r:D}(b:ds.length<=N)(h:x.wp S [] (DW rs λd _=>d.unR=r∧r.calmR=true) ⟨BE ds,λ_ _=>none,0⟩):RF S x rs N ds=some r:=by
 have q:∃r,wV S x rs N ds r:=⟨r,b,h⟩;unfold RF;rw[dif_pos q];obtain⟨d,_,u,y⟩:=PO (Classical.choose_spec q).2 h;rw[←u.1,y.1]
def An{P:Program}{S:Gz}{f:FuncId}{N:Nat}{x:DC}{rs:List RV}(s:Fn P f N x rs)(w:Gz.ok P S):(Ac (RF S x rs N)).ok P f:=
 AL w s (λds r h=>(xI h).1) (λds r h=>(xI h).2)
theorem GX{m:GB}{i:Id}{ds:List D}{n:Nat}(h:ds.length=n):Ag (m.put i 0 ds) i 0 n=some ds:=by
 subst h;exact TB (λk d p=>by rw[aE (Qq.1 p).1,p])
def BI{S:Gz}{ns:Id}{b:DC}{Q:Ex->St->Prop}{n:Nat}{I:Nat->St->Prop}(r:∀j,j<n->(∀v g,I (j+1) v->A9 S ns b Q v g)->∀v g,I j v->A9 S ns b Q v g)(he:∀v g,I n v->A9 S ns b Q v g):∀j,j<=n->∀v g,I j v->A9 S ns b Q v g:=by
 have z:∀f j,n=j+f->∀v g,I j v->A9 S ns b Q v g:=by
  intro f;induction f with
  |zero=>
   intro j u v g x;have:j=n:=O
   subst this;exact he v g x
  |succ f ih=>intro j u v g x;exact r j O (λv g h=>ih (j+1) O v g h) v g x
 exact λj u=>z (n-j) j O
def wU(S:Gz)(x:DC)(rs:List RV)(N n:Nat)(cs r:List D)(y:D×List D):Prop:=cs.length=n∧r.length+1<=N∧∀(i:Id)(m:GB)(fr:Id),Ag m i 0 n=some cs->(∀j o,fr<:+j->m j o=none)->(∀k l,(i=l++k::fr)=False)->(∀k,(i=k::fr)=False)->
 x.wp S fr (DW rs λd m'=>d=y.1∧Ag m' i 0 n=some y.2∧E_ n i m m') ⟨BE (.ptr i 0::r),m,0⟩
def aFA(cs:List D)(n:Nat)(hl:cs.length=n)(g:0<n):∃m:GB,Ag m [0] 0 n=some cs∧(∀j o,[1]<:+j->m j o=none)∧(∀k l,(([0]:Id)=l++k::[1])=False)∧(∀k,(([0]:Id)=k::[1])=False):=by
 refine⟨GB.put (λ_ _=>none) [0] 0 cs,GX hl,λj o u=>?_,λk l=>eq_false (λe=>?_),λk=>eq_false (λe=>by simp at e)⟩
 ·rw[aA];rintro rfl;obtain⟨t,ht⟩:=u;have:=congrArg ZK ht;simp at this
 ·have:=congrArg ZK e;simp at this
open Classical in
def RM(S:Gz)(x:DC)(rs:List RV)(N n:Nat):List D->List D->Option (D×List D):=λcs r=>if h:∃y,wU S x rs N n cs r y then some (Classical.choose h)else none
def xF{S:Gz}{x:DC}{rs:List RV}{N n:Nat}{cs r:List D}{y:D×List D}(h:RM S x rs N n cs r=some y):wU S x rs N n cs r y:=by
 unfold RM at h;split at h
 ·grind
 ·cases h
def aQB{S:Gz}{x:DC}{rs:List RV}{N n:Nat}{cs r:List D}{y:D×List D}(g:0<n)(hl:cs.length=n)(b:r.length+1<=N) (h:∀(i:Id)(m:GB)(fr:Id),Ag m i 0 n=some cs->(∀j o,fr<:+j->m j o=none)->(∀k l,(i=l++k::fr)=False)->(∀k,(i=k::fr)=False)->
  x.wp S fr (DW rs λd m'=>d=y.1∧Ag m' i 0 n=some y.2∧E_ n i m m') ⟨BE (.ptr i 0::r),m,0⟩):RM S x rs N n cs r=some y:=by
 have q:∃y,wU S x rs N n cs r y:=⟨y,hl,b,h⟩;unfold RM;rw[dif_pos q];obtain⟨m,a,e,t,c⟩:=aFA cs n hl g;obtain⟨d,m',u,f⟩:=PO ((Classical.choose_spec q).2.2 [0] m [1] a e t c) (h [0] m [1] a e t c);have v:=u.1.symm.trans f.1;have z:=u.2.1.symm.trans f.2.1;simp only[Qb]at z;rw[show Classical.choose q=y from ZR v z]
def aQA{P:Program}{S:Gz}{f:FuncId}{N n:Nat}{a:DC}{rs:List RV}(s:Fn P f N a rs)(g:0<n)(o:Gz.ok P S):(mQ n (RM S a rs N n)).ok P f:=by
 refine aVf o s g (λcs w y t=>(xF t).2.1) (λi m fr cs w r k q hF p u x=>?_);exact(xF hF).2.2 i m fr q p u x
end Go.Vd
namespace Go.Vd
open Go.Proofs Go.RowKit
def aRJ{x:D}{l:List D}{n:Nat}:(x::l).take (n+1)=x::l.take n:=rfl
def aRK{l:List D}:l.take 0=[]:=rfl
def aRZ{l:List D}:l.drop 0=l:=rfl
def aRY{x:D}{l:List D}{n:Nat}:(x::l).drop (n+1)=l.drop n:=rfl
def aU9{x:D}{f:D->Option (List D)}:(some x).bind f=f x:=rfl
def aRQ{f:D->Option (List D)}:(none:Option D).bind f=none:=rfl
def aU8{x:List D}{f:List D->List D}:(some x).map f=some (f x):=rfl
def aRP{x:List D}{f:List D->D}:(some x).map f=some (f x):=rfl
def aRO{x:D}{f:D->D}:(some x).map f=some (f x):=rfl
def aRN{x:D}{f:D->List D}:(some x).map f=some (f x):=rfl
def aVa{x:List D}:(some x).isSome=true:=rfl
def aRU{x:D}:(some x).isSome=true:=rfl
def aVc{a b:Nat}{l q:List Nat}:(a::l=b::q)=(a=b∧l=q):=U
def aR0{a:Nat}{l:List Nat}:(a::l=[])=False:=U
def aVd:(true=false)=False:=U
def aVe:(false=true)=False:=U
def aRT{m:GB}{n:Nat}{i:Id}{o:Nat}:Wr m (some n) (.ptr i o)=(Ag m i o n).map .agg:=rfl
def aRS{m:GB}{i:Id}{o:Nat}:Wr m none (.ptr i o)=m i o:=rfl
def aFm{s:Nat->D}{m:GB}{k:Option Nat}{a b:Nat}:CR [.t b,.cell k a] s m=(Wr m k (s a)).map λd=> .tup [s b,d]:=by
 simp only[CR,Hu,RV.of];cases Wr m k (s a)<;>rfl
def xK{s:Nat->D}{m:GB}{k:Option Nat}{a b c:Nat}:CR [.cell k a,.t b,.t c] s m=(Wr m k (s a)).map λd=> .tup [d,s b,s c]:=by
 simp only[CR,Hu,RV.of];cases Wr m k (s a)<;>rfl
def Tx{s:Nat->D}{m:GB}{k:Option Nat}{a b c e:Nat}:CR [.cell k a,.t b,.t c,.t e] s m=(Wr m k (s a)).map λd=> .tup [d,s b,s c,s e]:=by
 simp only[CR,Hu,RV.of];cases Wr m k (s a)<;>rfl
def Hl{s:Nat->D}{m:GB}{k:Option Nat}{a b:Nat}:CR [.cell k a,.t b] s m=(Wr m k (s a)).map λd=> .tup [d,s b]:=by
 simp only[CR,Hu,RV.of];cases Wr m k (s a)<;>rfl
def aRX{cs:List D}:Cf cs []=some cs:=rfl
def aVb{cs:List D}{o n:Nat}{d:D}{r:List (Nat×Nat×D)}:Cf cs ((o,n,d)::r)=if d.data=true∧d.cells.length=n∧o+n<=cs.length then Cf (Fb cs o d.cells) r else none:=rfl
def aU7{cs ds:List D}{o:Nat}:Fb cs o ds=cs.take o++ds++cs.drop (o+ds.length):=rfl
def aRR{nl:Bool}{t u:Id}{xs:List D}:L1 0 (.slice nl t xs) (.slice true u [])=some nl:=by cases nl<;>rfl
def aR4:(true !=false)=true:=rfl
def aR3:(false !=false)=false:=rfl
def aR2:(true !=true)=false:=rfl
def aR1:(false !=true)=true:=rfl
def aRV{m:GB}{e:Nat}{f t:Id}{xs:List D}:GF.app m (Bc e f (.slice true t xs))=m.put f 0 [.tok (e+1)]:=rfl
def aRW{m:GB}{e:Nat}{f t:Id}{xs:List D}:GF.app m (Bc e f (.slice false t xs))=(m.put t 0 [.tok 0]).put f 0 [.tok (e+1)]:=rfl
def aRM{x y:D}{l:List D}:(x::l).set 0 y=y::l:=rfl
def aRL{x y:D}{l:List D}{n:Nat}:(x::l).set (n+1) y=x::l.set n y:=rfl
set_option linter.defProp false
def Gy:=Qa @Ah <| Qa @Au <| Qa @Av <| Qa @Bm <| Qa @Hl <| Qa @aFm <| Qa @xK <| Qa @Tx <| Qa @aRT <| Qa @aRS <| Qa @aRJ <| Qa @aRK <| Qa @aRZ <| Qa @aRY <| Qa @aU9 <| Qa @aRQ <| Qa @aU8 <| Qa @aRP <| Qa @aRO <| Qa @aRN <| Qa @aVa <| Qa @aRU <| Qa @aVc <| Qa @aR0 <| Qa @aVd <| Qa @aVe <| Qa @Qx <| Qa @Qw <| Qa @Qm <| Qa @true_and <| Qa @and_true <| Qa @false_and <| Qa @and_false <| Qa @and_self <| Qa @Qp <| Qa @QQ <| Qa @Qv <| Qa @Nat.add_eq_right <| Qa @Bool.true_or <| Qa @Bool.or_true <| Qa @ZL <| Qa @ZM <| Qa @ZH <| Qa @ZD <| Qa @not_true_eq_false <| Qa @not_false_eq_true <| Qa @aRX <| Qa @aVb <| Qa @aU7 <| Qa @aRM <| Qa @aRL <| Qa @aRR <| Qa @aRV <| Qa @aRW <| Qa aR4 <| Qa aR3 <| Qa aR2 aR1
def gZ1:=Qa GO Gy
abbrev Rw:=Int×Bool×Bool
def rwD(r:Rw):D:= .agg [.int .i64 r.1,.bool r.2.1,.bool r.2.2]
def A6(l:List Rw):List D:=l.map rwD
def AQ(l:List Rw):(A6 l).length=l.length:=Qy ..
def E9{l:List Rw}{j:Nat}(h:j<l.length):(A6 l)[j]?=some (.agg [.int .i64 l[j].1,.bool l[j].2.1,.bool l[j].2.2]):=by simp[A6,rwD,Qc h]
structure Sc where
 mx:Int
 cas:Bool
 la:Int
 nl:Bool
 rs:List Rw
def GG(s:Sc):List D:=[.int .i64 s.mx,.bool s.cas,.int .i64 s.la,.slice s.nl [] (A6 s.rs)]
def H3:List Rw->Int->Bool
 |[],_=>true
 |x::r,a=>decide (a<x.1)&&H3 r x.1
def B7(s:Sc)(q:Int):Int:=if s.mx=0 then q else s.mx
def Pc(l:List Rw):Int:=match l.getLast? with
 |some x=>x.1
 |none=>0
def DL(s:Sc)(q:Int):Bool:=!decide (1<=q∧q<=6)||(!decide (0<=s.mx∧s.mx<=6)||(!decide (0<=s.la∧s.la<=30)||(decide (B7 s q<s.rs.length)||(!H3 s.rs 0||!decide (Pc s.rs=s.la)))))
def Tn(s:Sc)(q:Int):Int:=if DL s q=true then 2 else 0
def aVX:=Aq []
def aPr:=RF aVX aKn [.t 2] 5
def aSy:Kq aPr 61:=An (Aj func61) Ad
def aHh(r:Rw):aPr [.agg [.int .i64 r.1,.bool r.2.1,.bool r.2.2]]=some (.int .i64 r.1):=by
 refine Al (QH rfl) ?_;unfold aKn;simp only[↓C2,GA,Gy,simprocAttr]
 all_goals exact YR
def aVT:=Aq []
def aG8:=RF aVT aJ4 [.cell (some 2) 0] 2
def aI4:Kq aG8 57:=An (Aj func57) Ad
def nQ:aG8 []=some (.agg [.int .i64 6,.bool false]):=by
 refine Al (QH rfl) ?_;unfold aJ4;simp only[↓C2,GA,Gy,simprocAttr]
 all_goals exact YR
def aV3:=Aq []
def Rb:=RF aV3 aKI [.cell (some 2) 0] 2
def aJa:Kq Rb 273:=An (Aj func273) Ad
def nW:Rb []=some (.agg [.int .i64 6,.bool false]):=by
 refine Al (QH rfl) ?_;unfold aKI;simp only[↓C2,GA,Gy,simprocAttr]
 all_goals exact YR
def aVY:=Aq []
def aHj:=RF aVY mP [.t 4] 12
def aI7:Kq aHj 59:=An aJA Ad
def nT(s:Sc)(q:Int)(b:Bool):aHj [.agg (GG s),.agg [.int .i64 q,.bool b]]=some (.int .i64 (B7 s q)):=by
 refine Al (QH rfl) ?_;unfold mP;unfold B7 GG;by_cases h:s.mx=0
 ·simp only[↓C2,GA,Gy,simprocAttr,h]
  all_goals exact YR
 ·simp only[↓C2,GA,Gy,simprocAttr,h]
  all_goals exact YR
def aOW:=Aq [(61,Ac aPr)]
def aPs:=RF aOW mO [.t 4] 23
def aSz:Kq aPs 60:=An aJz (Aa aSy Ad)
def aHi{nl:Bool}{l:List Rw}(hl:l.length<=1000):aPs [.slice nl [] (A6 l),.fn 61 []]=some (.bool (H3 l 0)):=by
 refine Al (QH rfl) ?_;unfold mO;simp only[↓C2,GD,simprocAttr,AQ];refine BI (n:=l.length) (I:=λj v=>v.s 8= .slice nl [] (A6 l)∧v.s 9= .int .i64 l.length∧v.s 10= .int .i64 (j:Int)∧v.s 1= .fn 61 []∧∃a,v.s 5= .int .i64 a∧H3 (l.drop j) a=H3 l 0) (λj z ih v g r=>?_) (λv g r=>?_) 0 (Qx _) _ _ ⟨rfl,rfl,rfl,rfl,0,rfl,rfl⟩
 ·obtain⟨ma,f,ea⟩:=v;obtain⟨o,i,la,u,a,c,t⟩:=r;simp only at o i la u c;refine Af OA.eq_1 ?_;have y:((j:Int)<l.length):=by omega
  have w:=nJ (j:=j);have k:=wJ (j:=j) O;have m:=E9 z;have p:l.drop j=l[j]::l.drop (j+1):=Q4 z;have b:=aHh l[j];rw[p]at t;generalize l[j]=x at m t b p;by_cases q:x.1<=a
  ·have e:H3 l 0=false:=by rw[←t];simp[H3];omega
   simp only[↓C2,GA,Gy,simprocAttr,o,i,la,u,c,y,w,Qj,m,Ae aOW 61,b,q];rw[e]
   all_goals exact YR
  ·have e:H3 (l.drop (j+1)) x.1=H3 l 0:=by rw[←t];simp only[H3];rw[decide_eq_true O];rfl
   simp only[↓C2,GA,Gy,simprocAttr,o,i,la,u,c,y,w,Qj,m,Ae aOW 61,b,q,k];exact ih _ _ ⟨o,i,rfl,u,_,rfl,e⟩
 ·obtain⟨o,i,la,u,a,c,t⟩:=r;refine Af OA.eq_1 ?_;have e:H3 l 0=true:=by rw[←t];simp[H3]
  simp only[↓C2,GA,Gy,simprocAttr,i,la,Zn];rw[e]
  all_goals exact YR
def FA:Gz:=Aq [(58,Ac dI),(59,Ac aHj),(60,Ac aPs)]
def I0:List D->Option D:=RF FA mU [.t 4] 52
def Pw:Kq I0 25:=An aJD (Aa yK (Aa aI7 (Aa aSz Ad)))
def Gt(s:Sc)(q:Int)(b:Bool)(hl:s.rs.length<=1000):I0 [.agg (GG s),.agg [.int .i64 q,.bool b]]=some (.int .i64 (Tn s q)):=by
 refine Al (QH rfl) ?_;unfold mU;have d:=nT s q b;have f:=aHi (nl:=s.nl) (l:=s.rs) hl;have c:∀x a b:Int,dI [.int .i64 x,.int .i64 a,.int .i64 b]=some (.bool (decide (a<=x∧x<=b))):=λ_ _ _=>rfl
 have r:IntKind.i64.wrap ((s.rs.length:Int)-1)=(s.rs.length:Int)-1:=GZ O O;have g:0<s.rs.length->∃x:Rw,Pc s.rs=x.1∧(A6 s.rs)[((s.rs.length:Int)-1).toNat]?=some (.agg [.int .i64 x.1,.bool x.2.1,.bool x.2.2]):=λh=>by
  have w:((s.rs.length:Int)-1).toNat=s.rs.length-1:=O
  refine⟨s.rs[s.rs.length-1],?_,by rw[w];exact E9 O⟩;unfold Pc;rw[List.getLast?_eq_getElem?,Qc O]
 have z:¬0<s.rs.length->Pc s.rs=0:=λh=>by
  have:s.rs=[]:=Zo.1 O;rw[this];rfl
 unfold Tn DL;unfold GG at d ⊢;generalize B7 s q=n at d;generalize H3 s.rs 0=y at f;generalize Pc s.rs=nw at g z;by_cases c1:1<=q∧q<=6
 case neg=>
  simp only[↓C2,GA,Gy,simprocAttr,Ae FA 58,c,c1]
  all_goals exact YR
 by_cases p:0<=s.mx∧s.mx<=6
 case neg=>
  simp only[↓C2,GA,Gy,simprocAttr,Ae FA 58,c,c1,p]
  all_goals exact YR
 by_cases o:0<=s.la∧s.la<=30
 case neg=>
  simp only[↓C2,GA,Gy,simprocAttr,Ae FA 58,c,c1,p,o]
  all_goals exact YR
 by_cases u:n<s.rs.length
 case pos=>
  simp only[↓C2,GA,Gy,simprocAttr,Ae FA 58,c,Ae FA 59,d,c1,p,o,u,AQ];refine AY ?_;simp only[↓C2,GA,Gy,simprocAttr,u]
  all_goals exact YR
 cases y with
 |false=>
  simp only[↓C2,GA,Gy,simprocAttr,Ae FA 58,c,Ae FA 59,d,Ae FA 60,f,c1,p,o,u,AQ];refine AY ?_;simp only[↓C2,GA,Gy,simprocAttr,u]
  all_goals exact YR
 |true=>
  by_cases k:0<s.rs.length
  ·obtain⟨x,v,m⟩:=g k;have i:(0:Int)<(s.rs.length:Int):=by omega
   have j:(0:Int)<=(s.rs.length:Int)-1:=O
   subst v;by_cases t:x.1=s.la
   ·simp only[↓C2,GA,Gy,simprocAttr,Ae FA 58,c,Ae FA 59,d,Ae FA 60,f,c1,p,o,u,t,AQ];refine AY ?_;simp only[↓C2,GA,Gy,simprocAttr,c1,p,o,u,i,j,r,m,t,AQ]
    all_goals exact YR
   ·simp only[↓C2,GA,Gy,simprocAttr,Ae FA 58,c,Ae FA 59,d,Ae FA 60,f,c1,p,o,u,t,AQ];refine AY ?_;simp only[↓C2,GA,Gy,simprocAttr,c1,p,o,u,i,j,r,m,t,AQ]
    all_goals exact YR
  ·have v:=z k;have i:¬(0:Int)<(s.rs.length:Int):=by omega
   subst v;by_cases t:(0:Int)=s.la
   ·have e:((0:Int)=s.la)=True:=eq_true t;simp only[↓C2,GA,Gy,simprocAttr,Ae FA 58,c,Ae FA 59,d,Ae FA 60,f,c1,p,o,u,e,AQ];refine AY ?_;simp only[↓C2,GA,Gy,simprocAttr,c1,p,o,u,i,e,AQ]
    all_goals exact YR
   ·have e:((0:Int)=s.la)=False:=eq_false t;simp only[↓C2,GA,Gy,simprocAttr,Ae FA 58,c,Ae FA 59,d,Ae FA 60,f,c1,p,o,u,e,AQ];refine AY ?_;simp only[↓C2,GA,Gy,simprocAttr,c1,p,o,u,i,e,AQ]
    all_goals exact YR
def aTv:=y0 f80 [] []
def aLG:=y0 f133 [] []
def aLF:=y0 f135 [] []
def aTm:=y0 f40 [] []
def OH:=y1 f91 3 [] []
def aK9:=y0 f91 [] [(3,OH)]
def aK8:=y0 f92 [] []
def aLD:=y0 Tryz.f195 [(2,[(5,1),(5,8),(6,1),(6,8)])] []
def aTl:=y0 f134 [] []
def aK7:=y0 f198 [] []
def aGv:=y1 f253 3 [] []
def aGu:=y1 f253 11 [] []
def aTG:=y0 f253 [] [(3,aGv),(11,aGu)]
def aTu:=y0 f196 [] []
def aTC:=y0 f81 [] []
def aTB:=y0 f13 [] []
def OJ:=y1 f19 3 [] []
def aLw:=y0 f19 [] [(3,OJ)]
def eB{a b:Bs}:AO .lss (.str a) (.str b)=some (.bool (Op.bytesLess a b)):=Xo
def vU{a b:Bs}:AO .gtr (.str a) (.str b)=some (.bool (!(Op.bytesLess a b||a==b))):=Xo
def CO(a b:Bs):Int:=if Op.bytesLess a b=true then-1 else if a=b then 0 else 1
def aIf:List D->Option D
 |[.str s]=>some (.bool false)
 |_=>none
def aRf:Kq aIf 113:=by
 refine AL (S:=λ_=>none) A4 (Aj func113:Fn Qf 113 6 aKW [.t 2]) (λds r h=>?_) (λds r h=>?_)
 ·unfold aIf at h;split at h
  ·simp
  ·cases h
 ·unfold aIf at h;split at h
  ·rename_i s;simp only[Qb]at h;subst h;unfold aKW;simp only[↓C2,GA,reduceIte,Qd,Qe,and_self]
  ·cases h
def N9:List D->Option D
 |[.str a,.str b]=>some (.int .i64 (CO a b))
 |_=>none
def lK:Kq N9 62:=by
 obtain⟨S,w,hl⟩:=Bl (Aa aRf Ad);have d:=hl 113 _ rfl;clear hl;refine AL (S:=S) w (Aj func62:Fn Qf 62 20 aLH [.t 4]) (λds r h=>?_) (λds r h=>?_)
 ·unfold N9 at h;split at h
  ·simp
  ·cases h
 ·unfold N9 at h;split at h
  ·rename_i a b;simp only[Qb]at h;subst h;unfold aLH;have c:∀s,aIf [.str s]=some (.bool false):=λ_=>rfl
   unfold CO;cases hl:Op.bytesLess a b with
   |true=>simp only[↓C2,GA,reduceIte,Qd,Qe,and_self,Ab d,c,eB,hl]
   |false=>
    by_cases f:a=b
    ·subst f;have z:(a==a)=true:=by simp
     simp only[↓C2,GA,reduceIte,Qd,Qe,and_self,Ab d,c,eB,vU,hl,z,ZL]
    ·have z:(a==b)=false:=by simpa using f
     simp only[↓C2,GA,reduceIte,Qd,Qe,and_self,Ab d,c,eB,vU,hl,z,f,ZM]
  ·cases h
def vD:List D->Option D
 |[.agg [.str p,.int .i64 q,.bool b],.agg [.str p2,.int .i64 q2,.bool b2]]=>some (.int .i64 (CO p p2))
 |_=>none
def aRB:Kq vD 192:=by
 obtain⟨S,g,hl⟩:=Bl (Aa lK Ad);have w:=hl 62 _ rfl;clear hl;refine AL (S:=S) g (Aj func192:Fn Qf 192 10 aLI [.t 4]) (λds r h=>?_) (λds r h=>?_)
 ·unfold vD at h;split at h
  ·simp
  ·cases h
 ·unfold vD at h;split at h
  ·rename_i p q b i o f;simp only[Qb]at h;subst h;unfold aLI;have z:∀a b,N9 [.str a,.str b]=some (.int .i64 (CO a b)):=λ_ _=>rfl
   simp only[↓C2,GA,reduceIte,Qd,Qe,Ah,Qx,QL,Qw,Qh,Qk,Qm,Qg,and_self,Qn,Qp,QQ,Ab w,z]
  ·cases h
def vA:List D->Option D
 |[.agg [.str n,.str p,.slice nl t xs],.str s]=>some (.int .i64 (CO n s))
 |_=>none
def aRm:Kq vA 92:=by
 obtain⟨S,g,hl⟩:=Bl (Aa lK Ad);have w:=hl 62 _ rfl;clear hl;refine AL (S:=S) g (Aj func92:Fn Qf 92 9 aK8 [.t 4]) (λds r h=>?_) (λds r h=>?_)
 ·unfold vA at h;split at h
  ·simp
  ·cases h
 ·unfold vA at h;split at h
  ·rename_i n p nl t xs s;simp only[Qb]at h;subst h;unfold aK8;have z:∀a b,N9 [.str a,.str b]=some (.int .i64 (CO a b)):=λ_ _=>rfl
   simp only[↓C2,GA,reduceIte,Qd,Qe,Ah,Qx,QL,Qw,Qh,Qk,Qm,Qg,and_self,Ab w,z]
  ·cases h
abbrev Tk:=Bs×Bs×Bool×List Rl
def O1(k:Tk):D:= .agg [.str k.1,.str k.2.1,.slice k.2.2.1 [] (Ar k.2.2.2)]
def AI(l:List Tk):List D:=l.map O1
def tkT:D->Tk
 | .agg [.str n,.str p,.slice nl _ xs]=>(n,p,nl,Bk xs)
 |_=>([],[],true,[])
def Dm(xs:List D):List Tk:=xs.map tkT
def BF(l:List Tk):Dm (AI l)=l:=by
 simp only[Dm,AI,QJ]
 conv=>rhs;rw[←ZB l]
 exact QD λr _=>by simp only[Function.comp,O1,tkT,A0,id]
theorem BY(l:List Tk):(AI l).length=l.length:=Qy ..
def Bf(l:List Tk)(j:Nat):Tk:=l.getD j ([],[],true,[])
def IF{l:List Tk}{j:Nat}(h:j<l.length):(AI l)[j]?=some (O1 (Bf l j)):=by
 grind [AI,Bf]
def bsR(l:List Tk)(s:Bs):Nat->Nat->Nat->Nat
 |0,lo,_=>lo
 |f+1,lo,hi=>if lo<hi then(if CO (Bf l ((lo+hi) / 2)).1 s<0 then bsR l s f ((lo+hi) / 2+1) hi else bsR l s f lo ((lo+hi) / 2))else lo
def HG(l:List Tk)(s:Bs):Nat:=bsR l s l.length 0 l.length
def AV(l:List Tk)(s:Bs):Bool:=decide (HG l s<l.length)&&decide (CO (Bf l (HG l s)).1 s=0)
def aOH{lo hi:Nat}(h:lo+hi<1000000000):IntKind.i64.wrap ((IntKind.u64.wrap (IntKind.i64.wrap ((lo:Int)+(hi:Int)))).fdiv (2 ^ min (1:Int).toNat IntKind.u64.bits))=(((lo+hi) / 2:Nat):Int):=by
 have u:IntKind.i64.wrap ((lo:Int)+(hi:Int))=((lo+hi:Nat):Int):=Xi
 have y:IntKind.u64.wrap ((lo+hi:Nat):Int)=((lo+hi:Nat):Int):=by
  simp only[IntKind.wrap,IntKind.signed,IntKind.bits,Za,QS,if_false];omega
 have p:(((lo+hi:Nat):Int)).fdiv (2 ^ min (1:Int).toNat IntKind.u64.bits)=(((lo+hi) / 2:Nat):Int):=by
  rw[show(2:Int) ^ min (1:Int).toNat IntKind.u64.bits=2 from rfl,Int.fdiv_eq_ediv_of_nonneg _ O];omega
 rw[u,y,p,GZ O O]
def aFW{S:Gz}{ns:Id}{l:List Tk}{nl:Bool}{t:Id}{s:Bs}{Q:Ex->St->Prop}{e:Nat}(a:S 92=some (Ac vA))(m:l.length<=1000000)
  (fa:∀v,v.s 0= .slice nl t (AI l)->v.s 1= .str s->v.s 2= .fn 92 []->v.s 8= .int .i64 (l.length:Int)->v.s 9= .int .i64 (e:Int)->Q (.exit 0) v):
  ∀(f lo hi:Nat) v g,hi<=lo+f->hi<=l.length->bsR l s f lo hi=e->v.s 0= .slice nl t (AI l)->v.s 1= .str s->v.s 2= .fn 92 []->v.s 8= .int .i64 (l.length:Int)->v.s 9= .int .i64 (lo:Int)->v.s 10= .int .i64 (hi:Int)->A9 S ns OH Q v g:=by
 intro f;induction f with
 |zero=>
  intro lo hi v g hf hh z h0 q y h8 h9 x;refine Af OH.eq_1 ?_;have:¬((lo:Int)<hi):=O
  simp only[↓C2,GD,GN,reduceIte,Qd,Qe,h9,x,this];exact fa _ h0 q y h8 (by rw[←z];exact h9)
 |succ f ih=>
  intro lo hi v g hf hh z h0 q y h8 h9 x;refine Af OH.eq_1 ?_;unfold bsR at z;by_cases w:lo<hi
  ·rw[if_pos w]at z;have d:((lo:Int)<hi):=by omega
   have h:=aOH (lo:=lo) (hi:=hi) O;have xa:(lo+hi) / 2<hi:=O
   have u:lo<=(lo+hi) / 2:=O
   generalize (lo+hi) / 2=mid at z h xa u;have ra:(0:Int)<=(mid:Int):=O
   have i:(0:Int)<=1:=O
   have hw:IntKind.i64.wrap ((mid:Int)+1)=((mid+1:Nat):Int):=GZ O O;have ka:=IF (l:=l) (j:=mid) O;generalize Bf l mid=k at ka z;obtain⟨n,p,r,rs⟩:=k;replace ka:(AI l)[mid]?=some (.agg [.str n,.str p,.slice r [] (Ar rs)]):=ka;have b:vA [.agg [.str n,.str p,.slice r [] (Ar rs)],.str s]=some (.int .i64 (CO n s)):=rfl;simp only at z;generalize CO n s=c at z b;obtain⟨ma,ia,ea⟩:=v;simp only at h0 q y h8 h9 x;by_cases o:c<0
   ·rw[if_pos o]at z;simp only[↓C2,GA,reduceIte,Qd,Qe,h0,q,y,h9,x,d,h,ra,i,hw,ka,o,Qj,Ab a,b,QY,Qh,Qk,Qm,Qu,Qz];exact ih (mid+1) hi _ _ O hh z h0 q y h8 rfl x
   ·rw[if_neg o]at z;simp only[↓C2,GA,reduceIte,Qd,Qe,h0,q,y,h9,x,d,h,ra,i,ka,o,Qj,Ab a,b,QY,Qh,Qk,Qm,Qu,Qz];exact ih lo mid _ _ O O z h0 q y h8 h9 rfl
  ·rw[if_neg w]at z;have d:¬((lo:Int)<hi):=by omega
   simp only[↓C2,GD,GN,reduceIte,Qd,Qe,h9,x,d];exact fa _ h0 q y h8 (by rw[←z];exact h9)
def UH(l:List Tk)(s:Bs):∀(f lo hi:Nat),lo<=hi->bsR l s f lo hi<=hi
 |0,lo,hi,h=>by simpa[bsR]using h
 |f+1,lo,hi,h=>by
  unfold bsR;split
  ·split
   ·exact UH l s f _ _ O
   ·exact QR (UH l s f _ _ O) O
  ·exact h
open Classical in
def aIm:List D->Option D
 |[.slice _ _ xs,.str s,.fn 92 []]=>if xs=AI (Dm xs)∧xs.length<=1000000 then some (.tup [.int .i64 (HG (Dm xs) s:Int),.bool (AV (Dm xs) s)])else none
 |_=>none
open Classical in
def aIl{nl:Bool}{t:Id}{l:List Tk}{s:Bs}(hl:l.length<=1000000):aIm [.slice nl t (AI l),.str s,.fn 92 []]=some (.tup [.int .i64 (HG l s:Int),.bool (AV l s)]):=by
 have h:AI l=AI (Dm (AI l))∧(AI l).length<=1000000:=by rw[BF,BY];exact⟨rfl,hl⟩
 show(if _ then _ else _)=_;rw[if_pos h,BF]
def aRn:Kq aIm 91:=by
 obtain⟨S,g,hl⟩:=Bl (Aa aRm Ad);have a:=hl 92 _ rfl;clear hl;refine AL (S:=S) g (Aj func91:Fn Qf 91 49 aK9 [.t 6,.t 7]) (λds r h=>?_) (λds r h=>?_)
 ·unfold aIm at h;split at h
  ·simp
  ·cases h
 ·unfold aIm at h;split at h
  ·rename_i nl t xs s;split at h
   ·rename_i o;obtain⟨q,hl⟩:=o;simp only[Qb]at h;subst h;generalize Dm xs=l at q;subst q;rw[BY]at hl;have ta:HG l s<=l.length:=UH l s _ _ _ O;unfold aK9;simp only[↓C2,GD,reduceIte,Qd,Qe,BY];refine aFW (l:=l) (nl:=nl) (t:=t) (s:=s) (e:=HG l s) a hl (λv f u y h8 z=>?_) l.length 0 l.length _ _ O O rfl rfl rfl rfl rfl rfl rfl;unfold AV;generalize HG l s=i at z ta;by_cases hi:i<l.length
    ·have x:((i:Int)<l.length):=by omega
     have c:(0:Int)<=(i:Int):=O
     have m:=IF (l:=l) (j:=i) hi;generalize Bf l i=k at m;obtain⟨n,p,w,rs⟩:=k;replace m:(AI l)[i]?=some (.agg [.str n,.str p,.slice w [] (Ar rs)]):=m;have b:vA [.agg [.str n,.str p,.slice w [] (Ar rs)],.str s]=some (.int .i64 (CO n s)):=rfl;simp only[↓C2,GA,reduceIte,Qd,Qe,f,u,y,h8,z,x,c,m,Qj,Ab a,b,QY,Qh,Qk,Qm,Qu,Qz];simp[hi]
    ·have x:¬((i:Int)<l.length):=by omega
     simp only[↓C2,GA,reduceIte,Qd,Qe,h8,z,x];simp[hi]
   ·cases h
  ·cases h
def kI(l:List Tk):(AI l).map D.un=AI l:=by rw[AI,QJ];exact QD λ_ _=>rfl
def pJ(l:List Tk):aF (AI l) 3=3:=XF
def E8(xs:List D):Prop:=xs=AI (Dm xs)∧xs.length<=1000000
def EE{l:List Tk}(hl:l.length<=1000000):E8 (AI l):=⟨by rw[BF],by rw[BY];exact hl⟩
def Ew{xs:List D}(h:E8 xs):∃l:List Tk,xs=AI l∧l.length<=1000000∧Dm xs=l:=by
 refine⟨Dm xs,h.1,?_,rfl⟩;have:=h.2;rw[h.1,BY]at this;exact this
open Classical in
def F93:List D->Option D
 |[.agg [.slice _ _ xs],.str s]=>if E8 xs then some (.tup [.int .i64 (HG (Dm xs) s:Int),.bool (AV (Dm xs) s)])else none
 |_=>none
open Classical in
def Ny{nl:Bool}{t:Id}{l:List Tk}{s:Bs}(hl:l.length<=1000000):F93 [.agg [.slice nl t (AI l)],.str s]=some (.tup [.int .i64 (HG l s:Int),.bool (AV l s)]):=by
 show(if _ then _ else _)=_;rw[if_pos (EE hl),BF]
def yG:Kq F93 40:=by
 obtain⟨S,w,hl⟩:=Bl (Aa aRn Ad);have b:=hl 91 _ rfl;clear hl;refine AL (S:=S) w (Aj func40:Fn Qf 40 12 aTm [.t 4,.t 5]) (λds r h=>?_) (λds r h=>?_)
 ·unfold F93 at h;split at h
  ·simp
  ·cases h
 ·unfold F93 at h;split at h
  ·rename_i nl t xs s;split at h
   ·rename_i o;obtain⟨l,rfl,hl,e⟩:=Ew o;simp only[Qb]at h;subst h;rw[e];have a:=aIl (nl:=nl) (t:=[]) (s:=s) hl;unfold aTm;simp only[↓C2,GO,simprocAttr,Ah,Ab b,a]
   ·cases h
  ·cases h
open Classical in
def F36:List D->Option D
 |[.agg [.slice _ _ xs],.str s,.str p]=>if E8 xs∧∀k∈Dm xs,k.2.2.2.length<=1000000 then some (.int .u8 (if AV (Dm xs) s=true then CT (Bf (Dm xs) (HG (Dm xs) s)).2.2.2 p else 0))else none
 |_=>none
def aQR:Kq F36 13:=by
 obtain⟨S,g,hl⟩:=Bl (Aa yG (Aa aNa Ad));have b:=hl 40 _ rfl;have z:=hl 41 _ rfl;clear hl;refine AL (S:=S) g (Aj func13:Fn Qf 13 25 aTB [.t 6]) (λds r h=>?_) (λds r h=>?_)
 ·unfold F36 at h;split at h
  ·simp
  ·cases h
 ·unfold F36 at h;split at h
  ·rename_i nl t xs s p;split at h
   ·rename_i o;obtain⟨o,x⟩:=o;obtain⟨l,rfl,hl,e⟩:=Ew o;rw[e]at x h;simp only[Qb]at h;subst h;have u:=Ny (nl:=nl) (t:=[]) (s:=s) hl;have v:=kI l;unfold aTB;cases hf:AV l s with
    |false=>simp only[↓C2,GO,simprocAttr,Ah,Au,Av,Qi,Ab b,u,hf]
    |true=>
     have hi:HG l s<l.length:=by
      grind [AV]
     rw[hf]at u;generalize HG l s=i at u hi;have c:(0:Int)<=(i:Int):=O
     have m:=IF (l:=l) (j:=i) hi;have hm:Bf l i∈l:=by simp[Bf,Qc hi]
     have y:=x _ hm;generalize Bf l i=k at m y;obtain⟨n,q,w,rs⟩:=k;replace m:(AI l)[i]?=some (.agg [.str n,.str q,.slice w [] (Ar rs)]):=m;have a:=jS (nl:=w) (t:=[]) (s:=p) y;simp only[↓C2,GO,simprocAttr,Ah,Au,Av,Qi,QB,QE,QP,Ab b,u,Ab z,a,c,m,Qj]
   ·cases h
  ·cases h
def LP(n p:Bs)(l:List Rl):Int:=if BM n=false then 2 else if B3 l≠0 then B3 l else if p=[]∧n=[114,111,111,116]then 0 else if BM p=true∧p≠n then 0 else 2
open Classical in
def vC:List D->Option D
 |[.agg [.str n,.str p,.slice _ _ xs]]=>if(xs=Ar (Bk xs)∧xs.length<=1000000∧Cj (Bk xs))∧n.length<=1000000∧p.length<=1000000 then some (.int .i64 (LP n p (Bk xs)))else none
 |_=>none
open Classical in
def U6{n p:Bs}{nl:Bool}{t:Id}{l:List Rl}(hl:l.length<=1000000)(g:Cj l)(u:n.length<=1000000)(y:p.length<=1000000):vC [.agg [.str n,.str p,.slice nl t (Ar l)]]=some (.int .i64 (LP n p l)):=by
 have h:(Ar l=Ar (Bk (Ar l))∧(Ar l).length<=1000000∧Cj (Bk (Ar l)))∧n.length<=1000000∧p.length<=1000000:=by rw[A0,AZ];exact⟨⟨rfl,hl,g⟩,u,y⟩
 show(if _ then _ else _)=_;rw[if_pos h,A0]
def aIZ:Kq vC 135:=by
 obtain⟨S,w,hl⟩:=Bl (Aa aRe (Aa V0 Ad));have b:=hl 199 _ rfl;have y:=hl 168 _ rfl;clear hl;refine AL (S:=S) w (Aj func135:Fn Qf 135 34 aLF [.t 2]) (λds r h=>?_) (λds r h=>?_)
 ·unfold vC at h;split at h
  ·simp
  ·cases h
 ·unfold vC at h;split at h
  ·rename_i n p nl t xs;split at h
   ·rename_i o;obtain⟨⟨q,hl,k⟩,g,i⟩:=o;simp only[Qb]at h;subst h;generalize Bk xs=l at q k;subst q;rw[AZ]at hl;have a:aEj [.str n]=some (.bool (BM n)):=if_pos g;have c:aEj [.str p]=some (.bool (BM p)):=if_pos i;have f:=U_ (nl:=nl) (t:=[]) hl k;have z:=Tw l;have s:=MU l;unfold aLF LP;generalize B3 l=e at *;generalize BM p=m at *;generalize BM n=j at *;cases j with
    |false=>simp only[↓C2,GA,simprocAttr,Ah,Qx,Qw,Qh,Qk,Qm,Qg,and_self,Ab b,a]
    |true=>
     simp only[↓C2,GO,simprocAttr,Ah,Ab b,a,Ab y,f]
     repeat' (first|(refine aG (λh=>?_) (λh=>?_)<;>try (exfalso;omega))|(simp only[↓C2,GO,simprocAttr,h,Ah,false_and,Ab b,c]))
     all_goals (try simp_all)
   ·cases h
  ·cases h
def A7{s:Nat->D}{m:GB}{k:Option Nat}{a b:Nat}:CR [.cell k a,.t b] s m=(Wr m k (s a)).map λd=> .tup [d,s b]:=by
 simp only[CR,Hu,RV.of];cases Wr m k (s a)<;>rfl
def LC:(true !=false)=true:=rfl
def aOI:(false !=false)=false:=rfl
def NG(nl:Bool)(xs:List D):Prop:=xs=Ar (Bk xs)∧xs.length<=1000000∧(nl=true->xs=[])
def LS{nl:Bool}{l:List Rl}(hl:l.length<=1000000)(g:nl=true->l=[]):NG nl (Ar l):=⟨by rw[A0],by rw[AZ];exact hl,λh=>by rw[g h];rfl⟩
def IJ{nl:Bool}{xs:List D}(h:NG nl xs):∃l:List Rl,xs=Ar l∧l.length<=1000000∧(nl=true->l=[])∧Bk xs=l:=by
 refine⟨Bk xs,h.1,?_,λg=>?_,rfl⟩
 ·have:=h.2.1;rw[h.1,AZ]at this;exact this
 ·rw[h.2.2 g];rfl
open Classical in
def aIk:List D->Option D
 |[.slice nl _ xs]=>if NG nl xs then some (.slice nl [] xs)else none
 |_=>none
open Classical in
def aIj{nl:Bool}{t:Id}{l:List Rl}(hl:l.length<=1000000)(g:nl=true->l=[]):aIk [.slice nl t (Ar l)]=some (.slice nl [] (Ar l)):=by
 show(if _ then _ else _)=_;rw[if_pos (LS hl g)]
def aRl:Kq aIk 198:=by
 refine AL (S:=λ_=>none) A4 (Aj func198:Fn Qf 198 8 aK7 [.t 2]) (λds r h=>?_) (λds r h=>?_)
 ·unfold aIk at h;split at h
  ·simp
  ·cases h
 ·unfold aIk at h;split at h
  ·rename_i nl t xs;split at h
   ·rename_i o;obtain⟨l,rfl,hl,g,e⟩:=IJ o;simp only[Qb]at h;subst h;have n1:(Ar l).length*25<=140737488355328:=by rw[AZ];omega
    unfold aK7;cases nl with
    |true=>
     have:=g rfl;subst this;simp only[↓C2,GA,simprocAttr,LC,L1];rfl
    |false=>simp only[↓C2,GA,simprocAttr,Ah,Qx,Qw,Qh,Qk,Qm,Qg,and_self,false_and,aOI,n1,gP,WF,Sf,false_or,Q_,ne_eq,QV,Zi,L1]
   ·cases h
  ·cases h
open Classical in
def F94:List D->Option D
 |[.agg [.str n,.str p,.slice nl _ xs]]=>if NG nl xs then some (.agg [.str n,.str p,.slice nl [] xs])else none
 |_=>none
open Classical in
def aD7{n p:Bs}{nl:Bool}{t:Id}{l:List Rl}(hl:l.length<=1000000)(g:nl=true->l=[]):F94 [.agg [.str n,.str p,.slice nl t (Ar l)]]=some (.agg [.str n,.str p,.slice nl [] (Ar l)]):=by
 show(if _ then _ else _)=_;rw[if_pos (LS hl g)]
def aQM:Kq F94 134:=by
 obtain⟨S,w,hl⟩:=Bl (Aa aRl Ad);have a:=hl 198 _ rfl;clear hl;refine AL (S:=S) w (Aj func134:Fn Qf 134 8 aTl [.cell (some 3) 2]) (λds r h=>?_) (λds r h=>?_)
 ·unfold F94 at h;split at h
  ·simp
  ·cases h
 ·unfold F94 at h;split at h
  ·rename_i n p nl t xs;split at h
   ·rename_i o;obtain⟨l,rfl,hl,g,e⟩:=IJ o;simp only[Qb]at h;subst h;have b:=aIj (t:=[]) hl g;unfold aTl;simp only[↓C2,GO,simprocAttr,Ah,Au,Av,Qi,Qo,Qn,Qp,and_false,Qv,Bm,AU,Ab a,b]
   ·cases h
  ·cases h
def wF(k:Tk):Prop:=k.2.2.2.length<=1000000∧(k.2.2.1=true->k.2.2.2=[])
open Classical in
def F35:List D->Option D
 |[.agg [.slice _ _ xs],.str s]=>if E8 xs∧∀k∈Dm xs,wF k then some (.tup (if AV (Dm xs) s=true then [O1 (Bf (Dm xs) (HG (Dm xs) s)),.bool true]else [.agg [.str [],.str [],.slice true [] []],.bool false]))else none
 |_=>none
def aQS:Kq F35 81:=by
 obtain⟨S,g,hl⟩:=Bl (Aa yG (Aa aQM Ad));have b:=hl 40 _ rfl;have a:=hl 134 _ rfl;clear hl;refine AL (S:=S) g (Aj func81:Fn Qf 81 23 aTC [.cell (some 3) 4,.t 5]) (λds r h=>?_) (λds r h=>?_)
 ·unfold F35 at h;split at h
  ·simp
  ·cases h
 ·unfold F35 at h;split at h
  ·rename_i nl t xs s;split at h
   ·rename_i o;obtain⟨o,x⟩:=o;obtain⟨l,rfl,hl,e⟩:=Ew o;rw[e]at x h;simp only[Qb]at h;subst h;have u:=Ny (nl:=nl) (t:=[]) (s:=s) hl;have z:=kI l;unfold aTC;cases hf:AV l s with
    |false=>simp only[↓C2,GO,simprocAttr,Ah,Au,Av,Qi,Qo,Qn,Qp,and_false,Qv,AU,A7,Cf,Ab b,u,hf]
    |true=>
     have hi:HG l s<l.length:=by
      grind [AV]
     rw[hf]at u;generalize HG l s=i at u hi;have c:(0:Int)<=(i:Int):=O
     have m:=IF (l:=l) (j:=i) hi;have hm:Bf l i∈l:=by simp[Bf,Qc hi]
     have y:=x _ hm;generalize Bf l i=k at m y;obtain⟨n,q,w,rs⟩:=k;replace m:(AI l)[i]?=some (.agg [.str n,.str q,.slice w [] (Ar rs)]):=m;have ja:=aD7 (n:=n) (p:=q) (t:=[]) y.1 y.2;simp only[↓C2,GO,simprocAttr,Ah,Au,Av,Qi,Qu,Qz,Qo,Qn,Qp,and_false,Qv,AU,A7,Ab b,u,Ab a,ja,c,m,Qj,O1]
   ·cases h
  ·cases h
def aGy:=y1 f190 3 [] []
def aGx:=y1 f190 11 [] []
def aTJ:=y0 f190 [] [(3,aGy),(11,aGx)]
def aJF:Fn Qf 190 36 aTJ [.t 2]:=Aj func190
abbrev sz3:D->Bool:=dP 3
def N0:List D->Option D
 |[.slice _ _ L]=>match ES L with
  |some ys=>if L.length<=1000∧0<ys.length∧ys.length<=100000∧ys.all sz3=true then some (.slice false [] ys)else none
  |none=>none
 |_=>none
set_option maxRecDepth 20000 in
def Vi(w:World)(k:Nat)(f:0<k)(s:k<=1000000):
  Calls Qf 306 #[.slice none 0 0,.int .i64 (k:Int)] w λe i=>e= .returned (.slice (some ⟨w.heap.size,0,none⟩) 0 (grownCap w k 0 107))∧i=w.drew.alloc (.cells (Builtin.zeroCells #[.string .empty,.string .empty,.slice none 0 0] k++Builtin.zeroCells #[.string .empty,.string .empty,.slice none 0 0] (grownCap w k 0 107-k)) 107):=by
 have z:=Lib.run_append_nil_zeros (P:=Qf) w 29 3 29 107 t107 (.agg #[.string .empty,.string .empty,.slice none 0 0]) .i64 .i64 underlying29 underlying3 Xa Xa k f V O (by show k*56<=_;omega)
 go_enter func306,ntmps306
 go_wp2_with (first|(at_builtin;refine Lib.wpList_append_run _ rfl _ _ _ _ rfl _ _ rfl rfl _ _ z ?_))
 all_goals go_ret
 all_goals exact⟨rfl,rfl⟩
def aQY:(Dz 107).ok Qf 306:=by
 refine L9 (sz:=3) ⟨_,func306,Xa,Xa⟩ V ⟨t107,(.agg #[.string .empty,.string .empty,.slice none 0 0]),Xa,Xa,Xa,Xa⟩ (λw k f s=>?_);refine(Vi w k f s).mono ?_;rintro e i ⟨rfl,rfl⟩;refine⟨_,_,grownCap_le_maxLen w k 0 107 Xq,?_,rfl,rfl⟩;have q:=grownCap_ge w k 0 107;simp only[Zx,size_zeroCells];simp;omega
def SO{ds:List D}{r:D}(h:N0 ds=some r):∃nl t L ys,ds=[.slice nl t L]∧ES L=some ys∧L.length<=1000∧0<ys.length∧ys.length<=100000∧ys.all (dP 3)=true∧r= .slice false [] ys:=by
 unfold N0 at h;split at h
 ·grind
 ·cases h
def aRc(a:(Dz 107).ok Qf 306):Kq N0 253:=nD (pt:=9) (bytes:=56) (Aj func253:Fn Qf 253 36 aTG [.t 2]) O a λ_ _ h=>SO h
set_option maxRecDepth 20000 in
def Vj(w:World)(k:Nat)(f:0<k)(s:k<=1000000):
  Calls Qf 250 #[.slice none 0 0,.int .i64 (k:Int)] w λe i=>e= .returned (.slice (some ⟨w.heap.size,0,none⟩) 0 (grownCap w k 0 68))∧i=w.drew.alloc (.cells (Builtin.zeroCells #[.string .empty,.int .i64 0,.bool false] k++Builtin.zeroCells #[.string .empty,.int .i64 0,.bool false] (grownCap w k 0 68-k)) 68):=by
 have z:=Lib.run_append_nil_zeros (P:=Qf) w 26 3 26 68 t68 (.agg #[.string .empty,.int .i64 0,.bool false]) .i64 .i64 underlying26 underlying3 Xa Xa k f V O (by show k*32<=_;omega)
 go_enter func250,ntmps250
 go_wp2_with (first|(at_builtin;refine Lib.wpList_append_run _ rfl _ _ _ _ rfl _ _ rfl rfl _ _ z ?_))
 all_goals go_ret
 all_goals exact⟨rfl,rfl⟩
def aIU:(Dz 68).ok Qf 250:=by
 refine L9 (sz:=3) ⟨_,func250,Xa,Xa⟩ V ⟨t68,(.agg #[.string .empty,.int .i64 0,.bool false]),Xa,Xa,Xa,Xa⟩ (λw k f s=>?_);refine(Vj w k f s).mono ?_;rintro e i ⟨rfl,rfl⟩;refine⟨_,_,grownCap_le_maxLen w k 0 68 Xq,?_,rfl,rfl⟩;have q:=grownCap_ge w k 0 68;simp only[Zx,size_zeroCells];simp;omega
def aRD(a:(Dz 68).ok Qf 250):Kq N0 190:=nD (pt:=9) (bytes:=32) aJF O a λ_ _ h=>SO h
def Cx:Tk:=([114,111,111,116],[],false,[([],63)])
def aIA:List D->Option D
 |[]=>some (O1 Cx)
 |_=>none
def aRA:Kq aIA 133:=by
 refine AL (S:=λ_=>none) A4 (Aj func133:Fn Qf 133 4 aLG [.cell (some 3) 0]) (λds r h=>?_) (λds r h=>?_)
 ·grind [aIA]
 ·unfold aIA at h;split at h
  ·simp only[Qb]at h;subst h;unfold aLG;simp only[↓C2,GO,simprocAttr,Ah,Au,Av,Qi,Qu,Qz,Qo,QB,QE,Qn,Qp,and_false,Qv,Bm,AU,Cf,Fb,Q_,QV,Zi,O1,Cx,Ar,rlD,Q0,QV]
  ·cases h
def F48:List D->Option D
 |[]=>some (.agg [.slice false [] (AI [Cx])])
 |_=>none
def aQN:Kq F48 80:=by
 obtain⟨S,w,hl⟩:=Bl (Aa aRA Ad);have a:=hl 133 _ rfl;clear hl;refine AL (S:=S) w (Aj func80:Fn Qf 80 4 aTv [.cell (some 1) 0]) (λds r h=>?_) (λds r h=>?_)
 ·grind [F48]
 ·unfold F48 at h;split at h
  ·simp only[Qb]at h;subst h;have b:aIA []=some (.agg [.str [114,111,111,116],.str [],.slice false [] [.agg [.str [],.int .u8 63]]]):=rfl;unfold aTv;simp only[↓C2,GA,simprocAttr,Ah,Au,Av,Qx,Qw,Qh,Qk,Qm,Qg,and_self,Qi,Qz,Qo,QB,QE,Qn,Qp,Qv,Bm,AU,Cf,Fb,Q_,QV,Zi,Ab a,b,AI,O1,Cx,Ar,rlD,Q0,QV]
  ·cases h
def E0(l:List Tk)(k:Tk):List Tk:=l.take (HG l k.1)++k::l.drop (HG l k.1)
open Classical in
def aIz:List D->Option D
 |[.agg [.slice _ _ xs],.agg [.str n,.str p,.slice nl _ ys]]=>if E8 xs∧xs.length<=90000∧NG nl ys then some (.agg [.slice false [] (AI (E0 (Dm xs) (n,p,nl,Bk ys)))])else none
 |_=>none
open Classical in
def aIy{nl0 nl:Bool}{t0 t:Id}{l:List Tk}{n p:Bs}{rs:List Rl}(hl:l.length<=90000)(c:rs.length<=1000000)(g:nl=true->rs=[]):
  aIz [.agg [.slice nl0 t0 (AI l)],.agg [.str n,.str p,.slice nl t (Ar rs)]]=some (.agg [.slice false [] (AI (E0 l (n,p,nl,rs)))]):=by
 have h:E8 (AI l)∧(AI l).length<=90000∧NG nl (Ar rs):=⟨EE O,by rw[BY];exact hl,LS c g⟩;show(if _ then _ else _)=_;rw[if_pos h,BF,A0]
def aRy:Kq aIz 195:=by
 obtain⟨S,w,hl⟩:=Bl (Aa yG (Aa aQM (Aa (aRc aQY) Ad)));have ea:=hl 40 _ rfl;have a:=hl 134 _ rfl;have b:=hl 253 _ rfl;clear hl;refine AL (S:=S) w (Aj func195:Fn Qf 195 28 aLD [.cell (some 1) 4]) (λds r h=>?_) (λds r h=>?_)
 ·unfold aIz at h;split at h
  ·simp
  ·cases h
 ·unfold aIz at h;split at h
  ·rename_i nl0 t0 xs n p nl t ys;split at h
   ·rename_i o;obtain⟨o,h9,hr⟩:=o;obtain⟨l,rfl,hl,e⟩:=Ew o;obtain⟨rs,rfl,f,m,e2⟩:=IJ hr;rw[e,e2]at h;rw[BY]at h9;simp only[Qb]at h;subst h;have k:=Ny (nl:=nl0) (t:=[]) (s:=n) hl;have u:=aD7 (n:=n) (p:=p) (t:=[]) f m;have ta:HG l n<=l.length:=UH l n _ _ _ O;unfold E0;generalize HG l n=i at k ta;generalize AV l n=fd at k;have v:(0:Int)<=(i:Int):=by omega
    have g:(i:Int)<=(l.length:Int):=O
    have va:l.length<=l.length:=QA _;have z:(AI l).take i=AI (l.take i):=(ZJ ..).symm;have sa:((AI l).drop i).take (l.length-i)=AI (l.drop i):=by
     rw[Q9 (by rw[ZA,BY];omega)];exact(List.map_drop ..).symm
    have c:N0 [.slice false [] [.slice nl0 [] (AI (l.take i)),.slice false [] [.agg [.str n,.str p,.slice nl [] (Ar rs)]],.slice nl0 [] (AI (l.drop i))]]=some (.slice false [] (AI (l.take i++(n,p,nl,rs)::l.drop i))):=by
     have j:ES [.slice nl0 [] (AI (l.take i)),.slice false [] [.agg [.str n,.str p,.slice nl [] (Ar rs)]],.slice nl0 [] (AI (l.drop i))]=some (AI (l.take i++(n,p,nl,rs)::l.drop i)):=by
      simp[ES,AI,O1]
     simp only[N0,j];rw[if_pos];refine⟨U,?_,?_,?_⟩
     ·grind [BY]
     ·grind [BY]
     ·rw[Qt];intro x q;obtain⟨y,_,rfl⟩:=QZ.1 q;rfl
    unfold aLD;simp only[↓C2,GO,simprocAttr,Ah,Au,Av,Qi,Qz,Qo,QB,QE,Qn,Qp,and_false,Qv,Cf,Fb,pJ,Q_,QV,Zi,Ab ea,k,Ab a,u,Ab b,c,BY,v,g,z,sa,Qj,QA];refine AY ?_;simp only[↓C2,GA,simprocAttr,Ah,Au,Av,Qw,Qh,Qk,Qm,Qg,and_self,Qi,QB,Qn,Qv,Bm,AU,QV,Zi,z,sa,QA]
   ·cases h
  ·cases h
def Wh{S:Gz}{ns:Id}{a b l:List Rl}{nl na nb:Bool}{t ta tb:Id}{Q:Ex->St->Prop}{e:Bool}{p:D}{i:Int}(z:S 41=some (Ac F95))(c:S 307=some (Ac aEi))
  (la:a.length<=1000000) (lb:b.length<=1000000) (pb:Cj b) (x:F4 a) (cb:F4 b) (hb:l.length<=1000000) (ab:Cj l)
  (pa:∀v,e=false->v.s 4= .bool false->Q .ret v) (fa:∀v,e=true->v.s 0= .slice na ta (Ar a)->v.s 1= .slice nb tb (Ar b)->v.s 19=p->v.s 20= .int .i64 i->Q (.exit 2) v):
  ∀(f j:Nat) v g,l.length=j+f->Eu a b l f j=e->v.s 0= .slice na ta (Ar a)->v.s 1= .slice nb tb (Ar b)->v.s 19=p->v.s 20= .int .i64 i->v.s 23= .slice nl t (Ar l)->v.s 24= .int .i64 (l.length:Int)->v.s 25= .int .i64 (j:Int)->A9 S ns OM Q v g:=by
 intro f;induction f with
 |zero=>
  intro j v g hf he h0 y m d o n ga;refine Af OM.eq_1 ?_;have:¬((j:Int)<l.length):=O
  simp only[↓C2,GD,GN,reduceIte,Qe,n,ga,this];exact fa _ he.symm h0 y m d
 |succ f ih=>
  intro j v g hf he h0 y m d o n ga;refine Af OM.eq_1 ?_;unfold Eu at he;have hj:j<l.length:=O
  have da:((j:Int)<l.length):=O
  have oa:=nJ (j:=j);have hw:=wJ (j:=j) O;have ka:(Ar l)[j]?=some (.agg [.str (CL l j).1,.int .u8 (CL l j).2]):=Oj hj;have hq:=VS ab hj;unfold fD at he;generalize CL l j=r at ka hq he;obtain⟨q,k⟩:=r;simp only at ka hq he;have u:=jS (nl:=na) (t:=[]) (s:=q) la;have w:=nE (s:=q) x;have h:=aIe (nl:=nb) (t:=[]) (s:=q) lb cb pb hq w.1 w.2;unfold Mz at h;generalize Ui (CT b q).toNat (CT a q).toNat=hh at he h;obtain⟨ma,ia,ea⟩:=v;simp only at h0 y m d o n ga;cases hh with
  |true=>
   rw[if_pos rfl]at he;simp only[↓C2,GO,reduceIte,Qd,Qe,h0,y,o,n,ga,da,oa,Qj,ka,Ab z,u,Ab c,h,Ah,Au,Av,QL,QY,Qi,Qu,Qz,Qo];refine AY ?_;simp only[↓C2,GD,Hp,reduceIte,Qd,Qe,ga,hw];exact ih (j+1) _ _ O he h0 y m d o n rfl
  |false=>
   rw[if_neg U]at he;simp only[↓C2,GO,reduceIte,Qd,Qe,h0,y,o,n,ga,da,oa,Qj,ka,Ab z,u,Ab c,h,Ah,Au,Av,QL,QY,Qi,Qu,Qz,Qo];refine AY ?_;simp only[↓C2,GD,Hp,reduceIte,Qd,Qe];exact pa _ he.symm rfl
def aRz:Kq aIx 254:=by
 obtain⟨S,hS,hl⟩:=Bl (Aa V0 (Aa aNa (Aa aRd Ad)));have w:=hl 168 _ rfl;have z:=hl 41 _ rfl;have c:=hl 307 _ rfl;clear hl;refine AL (S:=S) hS (Aj func254:Fn Qf 254 40 aLE [.t 4]) (λds r h=>?_) (λds r h=>?_)
 ·grind [dL]
 ·obtain⟨na,ta,a,nb,tb,b,rfl,q,lb,pa,pb,x,cb,rfl⟩:=dL h;have ea:=U_ (nl:=na) (t:=[]) q pa;have eb:=U_ (nl:=nb) (t:=[]) lb pb;have j:=MU a;have i:=MU b;have k:=Tw a;have n:=Tw b;unfold aLE Gn;generalize B3 a=xa at *;generalize B3 b=xb at *;by_cases f:xa=0
  ·by_cases g:xb=0
   ·subst f g;have z2:((2:Nat):Int)=2:=rfl;have w1:IntKind.i64.wrap ((0:Int)+1)=1:=GZ O O;have p:IntKind.i64.wrap ((1:Int)+1)=2:=GZ O O;rw[Zs];have s:a.all (fD a b)=Eu a b a a.length 0:=by rw[Is _ _ _ _ _ O];rfl
    have hb:b.all (fD a b)=Eu a b b b.length 0:=by rw[Is _ _ _ _ _ O];rfl
    rw[s,hb];simp only[↓C2,GA,reduceIte,Qd,Qe,Ab w,ea,eb,Cf,Fb,QY,Qh,Qk,Qm,and_self,Qu,Qz,QB,QE];refine Af OL.eq_1 ?_;simp only[↓C2,GD,GN,reduceIte,Qd,Qe,AZ,z2,ZO,Int.toNat_zero,ZC,Qg,and_self];refine Wh (a:=a) (b:=b) (l:=a) (e:=Eu a b a a.length 0) z c q lb pb x cb q pa (λv u y=>?_) (λv he o u m d=>?_) a.length 0 _ _ O rfl rfl rfl rfl rfl rfl rfl rfl
    ·simp only[↓C2,GA,u,y,Za,ZF]
    ·simp only[↓C2,GA,reduceIte,Qd,Qe,d,he,w1];refine Af OL.eq_1 ?_;simp only[↓C2,GD,GN,reduceIte,Qd,Qe,m,d,AZ,z2,ZO,Int.toNat_one,Int.reduceLE,Qg,QM,and_self];refine Wh (a:=a) (b:=b) (l:=b) (e:=Eu a b b b.length 0) z c q lb pb x cb lb pb (λv u y=>?_) (λv fa o u m d=>?_) b.length 0 _ _ O rfl o u m rfl rfl rfl rfl
     ·simp only[↓C2,GA,u,y,he,ZF]
     ·simp only[↓C2,GA,reduceIte,Qd,Qe,d,he,fa,p];refine Af OL.eq_1 ?_;simp only[↓C2,GA,reduceIte,Qd,Qe,d,he,fa,Zn]
   ·simp only[↓C2,GA,reduceIte,Qd,Qe,Ab w,ea,eb,g,f]
    try simp
  ·simp only[↓C2,GA,reduceIte,Qd,Qe,Ab w,ea,f]
   try simp
def Ic(l:List Tk)(k:Tk):Option (List Tk)×Int:=
 if LP k.1 k.2.1 k.2.2.2≠0 then(none,LP k.1 k.2.1 k.2.2.2)else if k.2.1=[]then(none,2)else if AV l k.1=true then(none,20)else if AV l k.2.1=false then(none,6)
 else if Gn k.2.2.2 (Bf l (HG l k.2.1)).2.2.2=false then(none,13)else(some (E0 l k),0)
def VA(nl:Bool)(l:List Tk)(o:Option (List Tk)):D:=match o with
 |none=> .agg [.slice nl [] (AI l)]
 |some q=> .agg [.slice false [] (AI q)]
def LY(l:List Rl):Prop:=l.length<=1000000∧Cj l∧F4 l
open Classical in
def F50:List D->Option D
 |[.agg [.slice nl0 _ xs],.agg [.str n,.str p,.slice nl _ ys]]=>if(E8 xs∧xs.length<=90000∧∀k∈Dm xs,LY k.2.2.2)∧NG nl ys∧LY (Bk ys)∧n.length<=1000000∧p.length<=1000000
   then some (.tup [VA nl0 (Dm xs) (Ic (Dm xs) (n,p,nl,Bk ys)).1,.int .i64 (Ic (Dm xs) (n,p,nl,Bk ys)).2])else none
 |_=>none
def aU2:Kq F50 196:=by
 obtain⟨S,hS,hl⟩:=Bl (Aa aIZ (Aa yG (Aa aRz (Aa aRy Ad))));have a:=hl 135 _ rfl;have ea:=hl 40 _ rfl;have f:=hl 254 _ rfl;have o:=hl 195 _ rfl;clear hl;refine AL (S:=S) hS (Aj func196:Fn Qf 196 54 aTu [.cell (some 1) 4,.t 5]) (λds r h=>?_) (λds r h=>?_)
 ·unfold F50 at h;split at h
  ·simp
  ·cases h
 ·unfold F50 at h;split at h
  ·rename_i nl0 t0 xs n p nl t ys;split at h
   ·rename_i v;obtain⟨⟨v,h9,hk⟩,hr,g,hn,hp⟩:=v;obtain⟨l,rfl,hl,e⟩:=Ew v;obtain⟨rs,rfl,ia,m,e2⟩:=IJ hr;rw[e,e2]at h;rw[e]at hk;rw[e2]at g;rw[BY]at h9;simp only[Qb]at h;subst h;have w:=U6 (n:=n) (p:=p) (nl:=nl) (t:=[]) ia g.2.1 hn hp;have c:=Ny (nl:=nl0) (t:=[]) (s:=n) hl;have b:=Ny (nl:=nl0) (t:=[]) (s:=p) hl;have q:=aIy (nl0:=nl0) (t0:=[]) (n:=n) (p:=p) (t:=[]) h9 ia m;unfold aTu Ic;simp only;generalize LP n p rs=e at *;by_cases z:e=0
    ·subst z;by_cases d:p=[]
     ·subst d;simp only[↓C2,GO,simprocAttr,Ah,Au,Av,Qi,Qo,Qn,Qp,and_false,Qv,AU,A7,Ab a,w,ne_eq];simp[VA];rfl
     ·cases h1:AV l n with
      |true=>
       rw[h1]at c;simp only[↓C2,GO,simprocAttr,Ah,Au,Av,Qi,Qo,Qn,Qp,and_false,Qv,AU,A7,Ab a,w,Ab ea,c,ne_eq,d];simp[VA];rfl
      |false=>
       rw[h1]at c;cases h2:AV l p with
       |false=>
        rw[h2]at b;simp only[↓C2,GO,simprocAttr,Ah,Au,Av,Qi,Qo,Qn,Qp,and_false,Qv,AU,A7,Ab a,w,Ab ea,c,b,ne_eq,d];simp[VA];rfl
       |true=>
        have hi:HG l p<l.length:=by
         grind [AV]
        rw[h2]at b;generalize HG l p=i at b hi;have ua:(0:Int)<=(i:Int):=O
        have ka:=IF (l:=l) (j:=i) hi;have hm:Bf l i∈l:=by simp[Bf,Qc hi]
        have y:=hk _ hm;generalize Bf l i=k at ka y;obtain⟨n2,p2,ga,u⟩:=k;replace ka:(AI l)[i]?=some (.agg [.str n2,.str p2,.slice ga [] (Ar u)]):=ka;have x:=aIw (na:=nl) (nb:=ga) (ta:=[]) (tb:=[]) ia y.1 g.2.1 y.2.1 g.2.2 y.2.2;simp only at x;cases h3:Gn rs u with
        |false=>
         rw[h3]at x;simp only[↓C2,GO,simprocAttr,Ah,Au,Av,Qi,QB,QE,QP,Qn,Qp,and_false,Qv,Ab a,w,Ab ea,c,b,ne_eq,d,ua,ka,Qj,Ab f,x];refine AY ?_;simp only[↓C2,GA,simprocAttr,Ah,Au,Av,Qx,Qw,Qh,Qk,Qm,Qg,and_self,Qi,Qo,Qn,Qp,Qv,AU,A7,d];simp[VA];rfl
        |true=>
         rw[h3]at x;simp only[↓C2,GO,simprocAttr,Ah,Au,Av,Qi,QB,QE,QP,Qn,Qp,and_false,Qv,Ab a,w,Ab ea,c,b,ne_eq,d,ua,ka,Qj,Ab f,x];refine AY ?_;simp only[↓C2,GO,simprocAttr,Ah,Au,Av,Qi,Qo,Qn,Qp,and_false,Qv,AU,A7,Ab o,q,d];simp[VA];rfl
    ·simp only[↓C2,GO,simprocAttr,Ah,Au,Av,Qi,Qo,Qn,Qp,and_false,Qv,AU,A7,Ab a,w,ne_eq,z];simp[VA];rfl
   ·cases h
  ·cases h
def aFY{S:Gz}{l:List Tk}{nl0:Bool}{t0:Id}{Q:Ex->St->Prop}(w:l.length<=1000000)
  (i:∀v nl t,nl=decide (l.length=0)->v.s 3= .slice nl t (l.map λk=> .str k.1)->Q (.exit 0) v):
  ∀(f j:Nat) nl t v g,l.length=j+f->nl=decide (j=0)->Gw v.m v.c 9 nl t->v.s 3= .slice nl t ((l.take j).map λk=> .str k.1)->v.s 7= .slice nl0 t0 (AI l)->v.s 8= .int .i64 (l.length:Int)->v.s 9= .int .i64 (j:Int)->A9 S [] OJ Q v g:=by
 intro f;induction f with
 |zero=>
  intro j nl t v g e a hG o h7 h8 h9;refine Af OJ.eq_1 ?_;have:¬((j:Int)<l.length):=O
  simp only[↓C2,GD,GN,reduceIte,Qe,h8,h9,this];refine i _ nl t (by rw[a,show j=l.length by omega]) ?_;rw[show j=l.length by omega,Zp]at o;exact o
 |succ f ih=>
  intro j nl t v g e a hG o h7 h8 h9;refine Af OJ.eq_1 ?_;have u:j<l.length:=O
  have y:((j:Int)<l.length):=O
  have q:=nJ (j:=j);have hw:=wJ (j:=j) O;have ka:=IF (l:=l) (j:=j) u;have z:(l.take (j+1)).map (λk:Tk=>D.str k.1)=(l.take j).map (λk:Tk=>D.str k.1)++[.str (Bf l j).1]:=by
   rw[Zb u,List.map_append];simp[Bf,Qc u]
  have ra:((l.take j).map (λk:Tk=>D.str k.1)).length=j:=Xc
  have na:nl=true->(l.take j).map (λk:Tk=>D.str k.1)=[]:=by
   simp_all
  generalize (l.take j).map (λk:Tk=>D.str k.1)=x at o z ra na;generalize Bf l j=k at ka z;obtain⟨n,p,r,rs⟩:=k;replace ka:(AI l)[j]?=some (.agg [.str n,.str p,.slice r [] (Ar rs)]):=ka;obtain⟨ma,ia,b⟩:=v;simp only at o h7 h8 h9 hG z;simp only[↓C2,GO,simprocAttr,o,h7,h8,h9,y,q,Qj,ka,Ah,Au,Av,Qi,Qu,Qz,Qo,and_false];refine As.intro ⟨O,rfl,?_⟩ ?_
  ·first
    |exact(hG.put.put.more O).grow O
    |exact(Gw.put (Gw.put hG O) O).grow O
  rw[B0 na,←z];simp only[↓C2,GA,simprocAttr,h9,hw];refine ih (j+1) false _ _ _ O U ?_ rfl h7 h8 rfl;exact Gw.new Xb
open Classical in
def jU:List D->Option D
 |[.agg [.slice _ _ xs]]=>if E8 xs then some (.slice (decide ((Dm xs).length=0)) [] ((Dm xs).map λk=> .str k.1))else none
 |_=>none
def aRx:Kq jU 19:=by
 refine AL (S:=λ_=>none) A4 (Aj func19:Fn Qf 19 20 aLw [.t 2]) (λds r h=>?_) (λds r h=>?_)
 ·unfold jU at h;split at h
  ·simp
  ·cases h
 ·unfold jU at h;split at h
  ·rename_i nl t xs;split at h
   ·rename_i o;obtain⟨l,rfl,hl,e⟩:=Ew o;rw[e]at h;simp only[Qb]at h;subst h;unfold aLw;simp only[↓C2,GD,Hp,simprocAttr,BY,Ah,Qx,Qw,Qh,Qk,Qm,Qg,and_self];refine aFY (l:=l) (nl0:=nl) (t0:=t) hl (λv nl' z u y=>?_) l.length 0 true [] _ _ O U (.inl rfl) rfl rfl rfl rfl;simp only[↓C2,GA,simprocAttr,y];rw[u]
    first|done|rfl|exact⟨rfl,rfl⟩
   ·cases h
  ·cases h
def aLe:=y0 f265 [] []
def aJZ:=y0 f241 [] []
def aKu:=y0 f170 [] []
def uW:List D->Option D
 |[.int .i64 n,.int .i64 lo,.int .i64 hi]=>some (.bool (decide (lo<=n∧n<=hi)))
 |_=>none
def aIR:Kq uW 170:=by
 refine AL (S:=λ_=>none) A4 (Aj func170:Fn Qf 170 15 aKu [.t 6]) (λds r h=>?_) (λds r h=>?_)
 ·unfold uW at h;split at h
  ·simp
  ·cases h
 ·unfold uW at h;split at h
  ·rename_i n lo hi;simp only[Qb]at h;subst h;unfold aKu;simp only[↓C2,GD,simprocAttr]
   repeat' (first|(refine aG (λh=>?_) (λh=>?_)<;>try (exfalso;omega))|(simp only[↓C2,GA,simprocAttr,h,and_self,false_and]))
   all_goals (simp_all<;>omega)
  ·cases h
def uP:D->D->Option D
 | .junk,.int .i64 x=>some (.bool (!decide (1<=x∧x<=999)))
 |_,_=>none
def aOw:(It uP).ok Qf 241:=by
 obtain⟨S,w,hl⟩:=Bl (Aa aIR Ad);have f:=hl 170 _ rfl;clear hl;refine Nn (S:=S) w (Aj func241:Fn Qf 241 6 aJZ [.t 2]) (λx caps m fr c d j g p hl=>⟨O,?_⟩);unfold uP at g;split at g
 ·rename_i n;simp only[Qb]at g;subst g;have a:∀n lo hi,uW [.int .i64 n,.int .i64 lo,.int .i64 hi]=some (.bool (decide (lo<=n∧n<=hi))):=λ_ _ _=>rfl
  unfold aJZ;simp only[↓C2,GA,simprocAttr,Ab f,a]
  try exact λi o y h=>h
 ·cases g
def aOc:(Fu 241 none uP).ok Qf 293:=M9 O aS8 rfl aOw
def aTL:(dQ 241 none uP).ok Qf 240:=mY O aS9 aOc
def lN(nl:Bool)(xs:List D):Prop:=xs=AA (Dp xs)∧xs.length<=1000000∧(nl=true->xs=[])
def yU{nl:Bool}{l:List Mt}(hl:l.length<=1000000)(g:nl=true->l=[]):lN nl (AA l):=⟨by rw[BH],by rw[AX];exact hl,λh=>by rw[g h];rfl⟩
def qI{nl:Bool}{xs:List D}(h:lN nl xs):∃l:List Mt,xs=AA l∧l.length<=1000000∧(nl=true->l=[])∧Dp xs=l:=by
 refine⟨Dp xs,h.1,?_,λg=>?_,rfl⟩
 ·have:=h.2.1;rw[h.1,AX]at this;exact this
 ·rw[h.2.2 g];rfl
def rH(bs:List Bool):Bh bs<bs.length:=by
 unfold Bh;cases h:bs.findIdx? id with
 |none=>simp only;omega
 |some k=>
  rw[QT]at h;obtain⟨s,_⟩:=h;simp only;omega
def WM(l:List Mt)(p:Bs):B8 l p<l.length:=by
 have:=rH (l.map λm=>decide (m.1=p));rw[Qy]at this;exact this
open Classical in
def aEn:List D->Option D
 |[.agg [.slice _ _ xs],.str p]=>if xs=AA (Dp xs)∧xs.length<=1000000 then some (.tup (if B8 (Dp xs) p<0 then [MJ ([],0,false),.int .i64 14]else [MJ (CE (Dp xs) (B8 (Dp xs) p).toNat),.int .i64 0]))else none
 |_=>none
def aRq:Kq aEn 265:=by
 obtain⟨S,g,hl⟩:=Bl (Aa yM Ad);have c:=hl 187 _ rfl;clear hl;refine AL (S:=S) g (Aj func265:Fn Qf 265 18 aLe [.cell (some 3) 4,.t 5]) (λds r h=>?_) (λds r h=>?_)
 ·unfold aEn at h;split at h
  ·simp
  ·cases h
 ·unfold aEn at h;split at h
  ·rename_i nl t xs p;split at h
   ·rename_i o;obtain⟨q,hl⟩:=o;simp only[Qb]at h;subst h;generalize Dp xs=l at q;subst q;rw[AX]at hl;have z:=OT (nl:=nl) (t:=[]) (p:=p) hl;have y:=WM l p;unfold aLe;generalize B8 l p=i at z y;by_cases hi:i<0
    ·simp only[↓C2,GO,simprocAttr,Ah,Au,Av,Qi,Qo,Qn,Qp,QQ,and_false,AU,A7,Cf,Ab c,z,hi];simp[MJ];rfl
    ·obtain⟨j,rfl⟩:=QX (show 0<=i by omega);have u:j<l.length:=by omega
     have w:=nJ (j:=j);have m:(AA l)[j]?=some (.agg [.str (CE l j).1,.int .i64 (CE l j).2.1,.bool (CE l j).2.2]):=Ol u;simp only[↓C2,GO,simprocAttr,Ah,Au,Av,Qi,Qu,Qz,Qo,Qn,Qp,QQ,and_false,AU,A7,Ab c,z,hi,w,m,Qj];simp[MJ];rfl
   ·cases h
  ·cases h
def WK{bs:List Bool}{j:Nat}(h:bs[j]?=some true)(e:∀i,i<j->bs[i]?=some false):Bh bs=j:=by
 have u:j<bs.length:=(Qq.1 h).1;have:bs.findIdx? id=some j:=by
  rw[QT];refine⟨u,by rw[Qc u]at h;simpa using h,λi hi=>?_⟩;have:=e i hi;rw[Qc O]at this;simp[Qb]at this;simp[this]
 simp only[Bh,this]
def WL{bs:List Bool}(e:∀i,i<bs.length->bs[i]?=some false):Bh bs=-1:=by
 have:bs.findIdx? id=none:=Zl.2 λb m=>by
  obtain⟨i,hi,rfl⟩:=QW m;have:=e i hi;rw[Qc hi]at this;simpa using QF this
 simp only[Bh,this]
def Cq(l:List Mt)(p:Bs):Int:=Bh (l.map λm=>Cs p m.1)
def aLJ:=y0 f191 [] []
def mT:=y1 f251 2 [] []
def aKY:=y0 f251 [] [(2,mT)]
def Oz:=y1 f296 4 [] []
def Oy:=y1 f296 1 [] [(4,Oz)]
def aKi:=y0 f296 [] [(1,Oy)]
def aKX:=y0 f252 [] []
def aKh:=y0 f305 [] []
def aTw:=y0 f129 [(6,[(3,1)])] []
def m0t:Mt:=([],0,false)
def fP(a b:Mt):Bool:=decide (CO a.1 b.1<0)
def aWa(i:Id)(m:GB)(xs:List Mt):Prop:=∀j,j<xs.length->m i (j*3)=some (.str (xs.getD j m0t).1)∧m i (j*3+1)=some (.int .i64 (xs.getD j m0t).2.1)∧m i (j*3+2)=some (.bool (xs.getD j m0t).2.2)
structure Nv (i:Id) (m0 m:GB) (xs:List Mt):Prop where
 row:aWa i m xs
 out:∀i' o,(i'≠i∨xs.length*3<=o)->m i' o=m0 i' o
def Nv.put{i:Id}{m0 m:GB}{xs:List Mt}(h:Nv i m0 m xs){j:Nat}(u:j<xs.length){p:Bs}{q:Int}{b:Bool}:Nv i m0 (m.put i (j*3) [.str p,.int .i64 q,.bool b]) (xs.set j (p,q,b)):=by
 refine⟨λk s=>?_,λz o ho=>?_⟩
 ·rw[Zt]at s;by_cases e:k=j
  ·grind [m0t,Ah]
  ·have a:(xs.set j (p,q,b)).getD k m0t=xs.getD k m0t:=by simp[Zy,List.getElem?_set_ne (Ne.symm e)]
   rw[a];have g:∀d,d<3->¬(i=i∧j*3<=k*3+d∧k*3+d<j*3+[D.str p,.int .i64 q,.bool b].length):=by
    intro d r;simp;omega
   obtain⟨a1,t,n⟩:=h.row k s;exact⟨by rw[Ah,if_neg (by have:=g 0 O;rwa [Q8]at this)];exact a1,by rw[Ah,if_neg (g 1 O)];exact t,by rw[Ah,if_neg (g 2 O)];exact n⟩
 ·rw[Zt]at ho;rw[Ah,if_neg (by rintro⟨e,h1,h2⟩;simp at h2;rcases ho with ho|ho;exact ho e;omega)];exact h.out z o ho
def Nv.swp{i:Id}{m0 m:GB}{xs:List Mt}(h:Nv i m0 m xs){j:Nat}(u:j+1<xs.length){x y:Mt}(q:xs.getD j m0t=x)(o:xs.getD (j+1) m0t=y):
  Nv i m0 ((m.put i ((j+1)*3) [.str x.1,.int .i64 x.2.1,.bool x.2.2]).put i (j*3) [.str y.1,.int .i64 y.2.1,.bool y.2.2]) (Go.Vd.swp m0t xs j):=by
 unfold Go.Vd.swp;rw[q,o];exact(h.put (j:=j+1) u).put (by rw[Zt];omega)
def h108(a b:Mt):vD [MJ a,MJ b]=some (.int .i64 (CO a.1 b.1)):=rfl
def zL{S:Gz}{fr i:Id}{n:Nat}{m0:GB}{i8:Nat}{Q:Ex->St->Prop}(a:S 192=some (Ac vD))(r:n<=1000):
  ∀(j:Nat)(xs:List Mt) v g,xs.length=n->j<n->v.s 0= .row i n->v.s 1= .int .i64 0->v.s 2= .int .i64 (n:Int)->v.s 3= .fn 192 []->v.s 8= .int .i64 (i8:Int)->v.s 9= .int .i64 (j:Int)->Nv i m0 v.m xs->
   (∀k,k.s 0= .row i n->k.s 1= .int .i64 0->k.s 2= .int .i64 (n:Int)->k.s 3= .fn 192 []->k.s 8= .int .i64 (i8:Int)->Nv i m0 k.m (PC fP m0t xs j)->Q (.exit 2) k)->A9 S fr Oz Q v g:=by
 intro j;induction j with
 |zero=>
  intro xs v g hl p h0 u f h3 h8 h9 I z;refine Af Oz.eq_1 ?_;have c:¬((0:Int)<((0:Nat):Int)):=O
  simp only[↓C2,GD,GN,simprocAttr,u,h9,c];refine AY ?_;simp only[↓C2,GD,reduceIte,Qd];exact z _ h0 u f h3 h8 I
 |succ j ih=>
  intro xs v g hl p h0 u f h3 h8 h9 I z;refine Af Oz.eq_1 ?_;have c:((0:Int)<((j+1:Nat):Int)):=O
  have w1:IntKind.i64.wrap (((j+1:Nat):Int)-1)=(j:Int):=Xi
  have oa:=nJ (j:=j);have e:(0:Int)<=((j+1:Nat):Int):=O
  have ka:((j:Int)<(n:Int)):=O
  have b:(((j+1:Nat):Int)<(n:Int)):=O
  have bn:(3=1)=False:=U
  obtain⟨a0,a1,a2⟩:=I.row j O;obtain⟨b0,b1,b2⟩:=I.row (j+1) O;obtain⟨x,q⟩:∃x,xs.getD j m0t=x:=⟨_,rfl⟩;obtain⟨y,hy⟩:∃y,xs.getD (j+1) m0t=y:=⟨_,rfl⟩;have t:=z;unfold PC at t;have w:fP (xs.getD (j+1) m0t) (xs.getD j m0t)=decide (CO (xs.getD (j+1) m0t).1 (xs.getD j m0t).1<0):=rfl;rw[w]at t;rw[q]at a0 a1 a2 t;rw[hy]at b0 b1 b2 t;clear w;have o:=h108 y x;simp only[MJ]at o;obtain⟨ma,ia,ea⟩:=v;simp only at h0 u f h3 h8 h9 a0 a1 a2 b0 b1 b2 I;by_cases w:CO y.1 x.1<0
  ·rw[if_pos XL]at t;have q1:((j+1)*3<=j*3)=False:=eq_false O;have q2:((j+1)*3<=j*3+1)=False:=eq_false O;have q3:((j+1)*3<=j*3+1+1)=False:=eq_false O;have d:decide (CO y.1 x.1<0)=true:=by simpa using w
   simp only[↓C2,GA,simprocAttr,h0,u,h3,h9,c,oa,e,ka,b,w1,bn,Qj,a0,a1,a2,b0,b1,b2,w,Ab a,o,Au,Av,and_self,Qi];refine AY ?_;simp only[↓C2,GD,Hp,simprocAttr,h0,h9,oa,e,ka,b,w1,bn,Qj,a0,a1,a2,b0,b1,b2,q1,q2,q3,false_and,and_false,Ah,Au,Av,Qh,Qk,Qm,and_self,Qi,Qo];refine AY ?_;simp only[↓C2,GD,simprocAttr,h9,w1,bn];refine ih _ _ _ (by rw[kK];exact hl) O h0 u f h3 h8 rfl ?_ t;exact I.swp O q hy
  ·rw[if_neg XL]at t;simp only[↓C2,GA,simprocAttr,h0,u,h3,h9,c,oa,e,ka,b,w1,bn,Qj,a0,a1,a2,b0,b1,b2,w,Ab a,o,Au,Av,and_self,Qi];refine AY ?_;simp only[↓C2,GD,reduceIte,Qd,bn];exact t _ h0 u f h3 h8 I
end Go.Vd
end
