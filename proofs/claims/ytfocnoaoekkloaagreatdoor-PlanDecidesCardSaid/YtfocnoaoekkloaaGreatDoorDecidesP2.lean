/- A part of the proof; nothing in it is assumed. -/
import Derived.Test.YtfocnoaoekkloaaGreatDoorDecidesP1
import Derived.Test.YtfocnoaoekkloaaGreatDoorProg
import Derived.Shelf.Strings.Split
import Init
import Derived.Shelf.Strings.OnBuilder

set_option linter.unusedSimpArgs false
set_option linter.unusedVariables false
set_option linter.defProp false
set_option maxHeartbeats 4000000
set_option maxRecDepth 100000
open And renaming intro→Qn
open Option.some renaming injEq→Qo,inj→QP
open List renaming getElem?_eq_getElem→Qp,getElem?_cons_zero→Qt,length_map→Qw,mem_of_getElem?→Qx,all_eq_true→QA,drop_zero→QB,getElem?_cons_succ→QC,head?_cons→QE,getElem?_eq_some_iff→QI,length_cons→QJ,getElem?_take_of_lt→QN,length_nil→QO,map_congr_left→QR,suffix_cons→QS,mem_map→QV,drop_eq_getElem_cons→QW,map_map→QY,mem_cons_self→Q0,take_add_one→Q2,getElem?_map→Q3,mem_cons_of_mem→Q4,cons_append→Q5,getElem_mem→Q6,getElem_of_mem→Q8,take_succ_cons→Q9,drop_succ_cons→Za,length_append→Zd,replicate→Ze,take_of_length_le→Zf,take_succ_eq_append_getElem→Zi,map_cons→Zk,count_eq_zero_of_not_mem→Zl,range_eq_range'→Zm,length_take_le→Zp,getD→Zq,take_zero→Zs,getElem?_append_left→Zw,mem_cons→Zx,suffix_refl→Zy,map_nil→ZA,drop_eq_nil_of_le→ZB,map_append→ZC,nil_append→ZD,take_append_drop→ZE,drop_drop→ZF,length_pos_iff→ZG,map→ZK,append_assoc→ZL,take_length→ZM,mem_append→ZO,all_append→ZP,all_cons→ZS,any_map→ZU,length→ZX,map_id→ZY,range→Z0
open Int renaming toNat_natCast→Qq,eq_ofNat_of_zero_le→QD,cast_ofNat_Int→Zc,tdiv_eq_ediv_of_nonneg→Zu,fdiv_eq_ediv_of_nonneg→Zv,natCast_nonneg→ZJ,ediv_nonneg→ZR,lt_irrefl→ZT,le_of_lt→ZW,le_refl→ZZ,pow_pos→Z_
open Option renaming map_eq_some_iff→Qr,bind_eq_some_iff→QH,bind_some→QM,map_some→QX,isSome_some→Zt
open Go.Proofs.Tryz renaming prog→Qs
open Nat renaming reduceAdd→Qu,reduceEqDiff→Qv,zero_le→Qz,le_refl→QF,sub_zero→QK,zero_add→QU,le_trans→Q_,reduceLT→Q7,zero_ne_one→Zb,land→Zj,one_ne_zero→Zn,lt_of_lt_of_le→Zr,add_zero→Zz,add_sub_cancel→ZI,zero_testBit→ZN,lt_or_ge→ZV
open Prod.mk renaming injEq→Qy
open List.cons renaming injEq→QG
open Array renaming getD_eq_getD_getElem?→QL,getElem?_eq_some_iff→QQ,getElem?_setIfInBounds→Zo,replicate→ZQ
open Bool renaming and_eq_true→QT,false_eq_true→QZ,eq_iff_iff→Q1,eq_false_iff→Zg,false_and→Zh,true_and→ZH
open Go.Proofs.Tryz
noncomputable section
namespace Go.Vd
open Go.RowKit
section
variable{S:Ic}{s:Nat->D}{m:Ig}{fr:Id}{K:D->Ir->Prop}
def aZD{x:Ip}:AP S s m fr (.mv x) K=IE (some (x.ev s)) (λd=>K d []) .mk:=by simp[AP,AG,IE]
def aBt:D->D->D->(K:D->Ir->Prop)->Tag K->Prop
 | .bool t,a,b,K,_=>PO (t=true) (K a []) (K b []) .mk
 |_,_,_,_,_=>False
def jT{t:Bool}{a b:D}{g:Tag K}:aBt (.bool t) a b K g=PO (t=true) (K a []) (K b []) .mk:=rfl
def aPC{c a b:Ip}:AP S s m fr (.pick c a b) K=aBt (c.ev s) (a.ev s) (b.ev s) K .mk:=by
 simp only[AP,AG];unfold aBt;cases c.ev s<;>simp only[A5];rename_i t;cases t<;>simp[IE,PO]
def aFE{zs:List D}:AP S s m fr (.alloc zs) K=IE (some fr) (λfr=>K (.ptr fr 0) [(fr,0,zs)]) .mk:=by simp[AP,AG,IE]
def aTx{x:Ip}:AP S s m fr (.box x) K=IE (some fr) (λfr=>IE (some (x.ev s)) (λd=>AF (d.data=true) (K (.ptr fr 0) [(fr,0,d.cells)]) .mk) .mk) .mk:=by
 simp only[AP,AG];rw[Fl,Bi,Bi,Bi]
def aFD{zs:List D}{v:List (Nat×Nat×Ip)}:AP S s m fr (.build zs v) K=IE (Cd zs (v.map λp=>(p.1,p.2.1,p.2.2.ev s))) (λcs=>K (.agg cs) []) .mk:=by
 simp_all [AP,AG,Dl]
def aAq{e sz:Nat}{v:List Ip}:AP S s m fr (.bslice e sz v) K=IE (some fr) (λfr=>IE (some (v.map λp=>p.ev s)) (λds=>AF ((ds.all λd=>d.data&&d.cells.length==sz&&d.un.calm)=true) (K (.slice false fr (ds.map D.un)) [(fr,0,[.tok (e+1)])]) .mk) .mk) .mk:=by
 simp only[AP,AG];rw[Fl,Bi,Bi,Bi,List.all_map,QY];rfl
def Sw:Option Nat->D->(m:Ig)->(K:D->Ir->Prop)->Tag (m,K)->Prop
 |none,.ptr i o,m,K,_=>IE (m i o) (λd=>K d []) .mk
 |some n,.ptr i o,m,K,_=>IE (Ah m i o n) (λds=>K (.agg ds) []) .mk
 |none,.eptr ds,m,K,_=>IE ds.head? (λd=>K d []) .mk
 |some n,.eptr ds,m,K,_=>AF (n<=ds.length) (K (.agg (ds.take n)) []) .mk
 |_,_,_,_,_=>False
def vW{i:Id}{o:Nat}{g:Tag (m,K)}:Sw none (.ptr i o) m K g=IE (m i o) (λd=>K d []) .mk:=rfl
def kU{i:Id}{o n:Nat}{g:Tag (m,K)}:Sw (some n) (.ptr i o) m K g=IE (Ah m i o n) (λds=>K (.agg ds) []) .mk:=rfl
def Sv{ds:List D}{g:Tag (m,K)}:Sw none (.eptr ds) m K g=IE ds.head? (λd=>K d []) .mk:=rfl
def Pv{ds:List D}{n:Nat}{g:Tag (m,K)}:Sw (some n) (.eptr ds) m K g=AF (n<=ds.length) (K (.agg (ds.take n)) []) .mk:=rfl
def aPH{k:Option Nat}{x:Ip}:AP S s m fr (.load k x) K=Sw k (x.ev s) m K .mk:=by
 simp only[AP,AG];unfold Sw;cases x.ev s<;>cases k<;>simp only[A5,Dl,GP]
def jF(n:Nat):D->D->(m:Ig)->(K:D->Ir->Prop)->Tag (m,K)->Prop
 | .ptr i o,d,m,K,_=>AF (d.data=true∧d.cells.length=n∧(Ah m i o n).isSome=true) (K .junk [(i,o,d.cells)]) .mk
 |_,_,_,_,_=>False
def jE{n:Nat}{i:Id}{o:Nat}{d:D}{g:Tag (m,K)}:jF n (.ptr i o) d m K g=AF (d.data=true∧d.cells.length=n∧(Ah m i o n).isSome=true) (K .junk [(i,o,d.cells)]) .mk:=rfl
def aFw{n:Nat}{x v:Ip}:AP S s m fr (.store n x v) K=jF n (x.ev s) (v.ev s) m K .mk:=by
 simp only[AP,AG];unfold jF;cases x.ev s<;>simp only[A5,GP]
def NX:D->(K:D->Ir->Prop)->Tag K->Prop
 | .ptr i o,K,_=>K (.ptr i o) []
 | .eptr ds,K,_=>K (.eptr ds) []
 | .fn f cs,K,_=>K (.fn f cs) []
 |_,_,_=>False
def dD{i:Id}{o:Nat}{g:Tag K}:NX (.ptr i o) K g=K (.ptr i o) []:=rfl
def VF{ds:List D}{g:Tag K}:NX (.eptr ds) K g=K (.eptr ds) []:=rfl
def kE{f:FuncId}{cs:List D}{g:Tag K}:NX (.fn f cs) K g=K (.fn f cs) []:=rfl
def aAp{x:Ip}:AP S s m fr (.nilchk x) K=NX (x.ev s) K .mk:=by
 simp only[AP,AG];unfold NX;cases x.ev s<;>simp[A5,Bi]
def jS(fr:Id):D->(K:D->Ir->Prop)->Tag K->Prop
 | .str b,K,_=>K (.itp fr) [(fr,1,[.it b 0])]
 |_,_,_=>False
def jR{b:List UInt8}{g:Tag K}:jS fr (.str b) K g=K (.itp fr) [(fr,1,[.it b 0])]:=rfl
def aFx{x:Ip}:AP S s m fr (.range x) K=jS fr (x.ev s) K .mk:=by
 simp only[AP,AG];unfold jS;cases x.ev s<;>simp[A5,Bi]
def qI(i:Id):D->(K:D->Ir->Prop)->Tag K->Prop
 | .it b y,K,_=>PO (y<b.length) (K (.tup [.bool true,.int .i64 (y:Nat),.int .i32 (Utf8.decode ⟨b.toArray⟩ y).1]) [(i,1,[.it b (y+(Utf8.decode ⟨b.toArray⟩ y).2)])]) (K (.tup [.bool false]) []) .mk
 |_,_,_=>False
def aBT{i:Id}{b:List UInt8}{y:Nat}{g:Tag K}:qI i (.it b y) K g=PO (y<b.length) (K (.tup [.bool true,.int .i64 (y:Nat),.int .i32 (Utf8.decode ⟨b.toArray⟩ y).1]) [(i,1,[.it b (y+(Utf8.decode ⟨b.toArray⟩ y).2)])]) (K (.tup [.bool false]) []) .mk:=rfl
def aBS:D->(m:Ig)->(K:D->Ir->Prop)->Tag (m,K)->Prop
 | .itp i,m,K,_=>IE (m i 1) (λx=>qI i x K .mk) .mk
 |_,_,_,_=>False
def vN{i:Id}{g:Tag (m,K)}:aBS (.itp i) m K g=IE (m i 1) (λx=>qI i x K .mk) .mk:=rfl
def aPD{x:Ip}:AP S s m fr (.next x) K=aBS (x.ev s) m K .mk:=by
 simp only[AP,AG];unfold aBS;cases x.ev s<;>try (simp only[A5];done)
 rename_i i;simp only;cases m i 1 with
 |none=>simp only[A5]
 |some d=>
  simp only[Bi];unfold qI;cases d<;>simp only[A5];rename_i b y;rw[aJZ,Bi,Bi]
def aTy{op:BinOp}{x y:Ip}:AP S s m fr (.bin op x y) K=IE (AJ op (x.ev s) (y.ev s)) (λd=>K d []) .mk:=X7
def aZC{op:UnOp}{x:Ip}:AP S s m fr (.un op x) K=IE (xD op (x.ev s)) (λd=>K d []) .mk:=X7
def aH5(ne:Bool):D->D->Option D
 | .bool a,.bool b=>some (.bool ((a==b)!=ne))
 |_,_=>none
def aRx{a b:Bool}:aH5 false (.bool a) (.bool b)=some (.bool (decide (a=b))):=by cases a<;>cases b<;>rfl
def aRw{a b:Bool}:aH5 true (.bool a) (.bool b)=some (.bool (decide (a≠b))):=by cases a<;>cases b<;>rfl
def aTz{ne:Bool}{x y:Ip}:AP S s m fr (.beq ne x y) K=IE (aH5 ne (x.ev s) (y.ev s)) (λd=>K d []) .mk:=by
 simp only[AP,AG];unfold aH5;cases x.ev s<;>cases y.ev s<;>simp[A5,Bi]
def aP0(ne:Bool)(a:List (Nat×Nat)):D->D->Option D
 | .agg xs,.agg ys=>(Bn xs ys a).map λb=> .bool (b !=ne)
 |_,_=>none
def aAN{ne:Bool}{a:List (Nat×Nat)}{xs ys:List D}:aP0 ne a (.agg xs) (.agg ys)=(Bn xs ys a).map λb=> .bool (b !=ne):=rfl
def aTr{ne:Bool}{a:List (Nat×Nat)}{x y:Ip}:AP S s m fr (.seq ne a x y) K=IE (aP0 ne a (x.ev s) (y.ev s)) (λd=>K d []) .mk:=by
 simp only[AP,AG];unfold aP0;cases x.ev s<;>cases y.ev s<;>simp[A5,Dl]
def aFy{ne:Bool}{k:Nat}{x y:Ip}:AP S s m fr (.nileq ne k x y) K=IE (NY k (x.ev s) (y.ev s)) (λb=>K (.bool (b !=ne)) []) .mk:=X7
def aDK(k:IntKind):D->Option D
 | .int _ n=>some (.int k (k.wrap n))
 |_=>none
def xW{k k':IntKind}{n:Int}:aDK k (.int k' n)=some (.int k (k.wrap n)):=rfl
def aPN{k:IntKind}{x:Ip}:AP S s m fr (.conv k x) K=IE (aDK k (x.ev s)) (λd=>K d []) .mk:=by
 simp only[AP,AG];unfold aDK;cases x.ev s<;>simp[A5,Bi]
def aP2:D->Option D
 | .str b=>some (.str b)
 |_=>none
def aA0{b:List UInt8}:aP2 (.str b)=some (.str b):=rfl
def aTs{x:Ip}:AP S s m fr (.s2s x) K=IE (aP2 (x.ev s)) (λd=>K d []) .mk:=by
 simp only[AP,AG];unfold aP2;cases x.ev s<;>simp[A5,Bi]
def aP3:D->Option D
 | .str b=>some (.slice false [] (Ax b))
 |_=>none
def aA1{b:List UInt8}:aP3 (.str b)=some (.slice false [] (Ax b)):=rfl
def aTt{x:Ip}:AP S s m fr (.s2b x) K=IE (aP3 (x.ev s)) (λd=>K d []) .mk:=by
 simp only[AP,AG];unfold aP3;cases x.ev s<;>simp[A5,Bi]
def aD6:D->Option D
 | .slice _ _ xs=>(BQ xs).map .str
 |_=>none
def nI{nl:Bool}{t:Id}{xs:List D}:aD6 (.slice nl t xs)=(BQ xs).map .str:=rfl
def aTA{x:Ip}:AP S s m fr (.b2s x) K=IE (aD6 (x.ev s)) (λd=>K d []) .mk:=by
 simp only[AP,AG];unfold aD6;cases x.ev s<;>simp[A5,Dl]
def VU(off:Nat):D->Option D
 | .ptr i o=>some (.ptr i (o+off))
 | .eptr ds=>if off<=ds.length then some (.eptr (ds.drop off))else none
 |_=>none
def lQ{off:Nat}{i:Id}{o:Nat}:VU off (.ptr i o)=some (.ptr i (o+off)):=rfl
def eU{off:Nat}{ds:List D}:VU off (.eptr ds)=if off<=ds.length then some (.eptr (ds.drop off))else none:=rfl
def aFC{off:Nat}{x:Ip}:AP S s m fr (.faddr off x) K=IE (VU off (x.ev s)) (λd=>K d []) .mk:=by
 simp only[AP,AG];unfold VU;cases x.ev s<;>simp only[A5,GP,Bi]
def VT(off:Nat):Option Nat->D->Option D
 |none,.agg cs=>cs[off]?
 |some n,.agg cs=>if off+n<=cs.length then some (.agg ((cs.drop off).take n))else none
 |_,_=>none
def eT{off:Nat}{cs:List D}:VT off none (.agg cs)=cs[off]?:=rfl
def lP{off n:Nat}{cs:List D}:VT off (some n) (.agg cs)=if off+n<=cs.length then some (.agg ((cs.drop off).take n))else none:=rfl
def aFB{k:Option Nat}{off:Nat}{x:Ip}:AP S s m fr (.field k off x) K=IE (VT off k (x.ev s)) (λd=>K d []) .mk:=by
 simp only[AP,AG];unfold VT;cases x.ev s<;>cases k<;>simp only[A5,Dl,GP]
def VR(sz:Nat):D->D->(K:D->Ir->Prop)->Tag K->Prop
 | .slice _ _ xs,.int _ n,K,_=>AF (0<=n) (IE xs[n.toNat]? (λd=>AF (d.cells.length=sz) (K (.eptr d.cells) []) .mk) .mk) .mk
 | .row i l,.int _ n,K,_=>AF (0<=n∧n<(l:Int)) (K (.ptr i (if sz=1 then n.toNat else n.toNat*sz)) []) .mk
 |_,_,_,_=>False
def lE{sz l:Nat}{i:Id}{k:IntKind}{n:Int}{g:Tag K}:VR sz (.row i l) (.int k n) K g=AF (0<=n∧n<(l:Int)) (K (.ptr i (if sz=1 then n.toNat else n.toNat*sz)) []) .mk:=rfl
def VQ{sz:Nat}{nl:Bool}{t:Id}{xs:List D}{k:IntKind}{n:Int}{g:Tag K}:VR sz (.slice nl t xs) (.int k n) K g=AF (0<=n) (IE xs[n.toNat]? (λd=>AF (d.cells.length=sz) (K (.eptr d.cells) []) .mk) .mk) .mk:=rfl
def aFz{sz:Nat}{x i:Ip}:AP S s m fr (.iaddr sz x i) K=VR sz (x.ev s) (i.ev s) K .mk:=by
 simp only[AP,AG];unfold VR;cases x.ev s<;>cases i.ev s<;>first|(simp only[A5];done)|(simp only[GP,AF];done)|skip
 rename_i nl t xs k n;rw[Fl];simp only[AF];congr 1;cases xs[n.toNat]? with
 |none=>simp only[A5]
 |some d=>simp only[Bi,GP,AF]
def aCL:D->D->(K:D->Ir->Prop)->Tag K->Prop
 | .str b,.int _ n,K,_=>AF (0<=n) (IE b[n.toNat]? (λc=>K (.int .u8 (c.toNat:Int)) []) .mk) .mk
 |_,_,_,_=>False
def wG{b:List UInt8}{k:IntKind}{n:Int}{g:Tag K}:aCL (.str b) (.int k n) K g=AF (0<=n) (IE b[n.toNat]? (λc=>K (.int .u8 (c.toNat:Int)) []) .mk) .mk:=rfl
def aPI{x i:Ip}:AP S s m fr (.idxs x i) K=aCL (x.ev s) (i.ev s) K .mk:=by
 simp only[AP,AG];unfold aCL;cases x.ev s<;>cases i.ev s<;>try simp only[A5]
 rw[Fl,Dl]
def lG(len sz:Nat):D->D->(K:D->Ir->Prop)->Tag K->Prop
 | .ptr j o,.int _ n,K,_=>AF (0<=n∧n<(len:Int)) (K (.ptr j (o+n.toNat*sz)) []) .mk
 |_,_,_,_=>False
def lF{len sz o:Nat}{j:Id}{k:IntKind}{n:Int}{g:Tag K}:lG len sz (.ptr j o) (.int k n) K g=AF (0<=n∧n<(len:Int)) (K (.ptr j (o+n.toNat*sz)) []) .mk:=rfl
def aFA{len sz:Nat}{x i:Ip}:AP S s m fr (.iadda len sz x i) K=lG len sz (x.ev s) (i.ev s) K .mk:=by
 simp only[AP,AG];unfold lG;cases x.ev s<;>cases i.ev s<;>try simp only[A5]
 rw[GP,AF]
def aCM(len sz:Nat):D->D->(K:D->Ir->Prop)->Tag K->Prop
 | .agg cs,.int _ n,K,_=>AF (0<=n∧n<(len:Int)∧n.toNat*sz+sz<=cs.length) (K (.agg ((cs.drop (n.toNat*sz)).take sz)) []) .mk
 |_,_,_,_=>False
def wH{len sz:Nat}{cs:List D}{k:IntKind}{n:Int}{g:Tag K}:aCM len sz (.agg cs) (.int k n) K g=AF (0<=n∧n<(len:Int)∧n.toNat*sz+sz<=cs.length) (K (.agg ((cs.drop (n.toNat*sz)).take sz)) []) .mk:=rfl
def aPJ{len sz:Nat}{x i:Ip}:AP S s m fr (.idxm len sz x i) K=aCM len sz (x.ev s) (i.ev s) K .mk:=by
 simp only[AP,AG];unfold aCM;cases x.ev s<;>cases i.ev s<;>try simp only[A5]
 rw[GP,AF]
def aCN(len:Nat):D->D->(K:D->Ir->Prop)->Tag K->Prop
 | .agg cs,.int _ n,K,_=>AF (0<=n∧n<(len:Int)) (IE cs[n.toNat]? (λd=>K d []) .mk) .mk
 |_,_,_,_=>False
def wK{len:Nat}{cs:List D}{k:IntKind}{n:Int}{g:Tag K}:aCN len (.agg cs) (.int k n) K g=AF (0<=n∧n<(len:Int)) (IE cs[n.toNat]? (λd=>K d []) .mk) .mk:=rfl
def aPK{len:Nat}{x i:Ip}:AP S s m fr (.idxa len x i) K=aCN len (x.ev s) (i.ev s) K .mk:=by
 simp only[AP,AG];unfold aCN;cases x.ev s<;>cases i.ev s<;>try simp only[A5]
 rw[Fl,Dl]
def aGJ(w:Bool):D->D->Option D
 | .int k a,.int _ b=>some (.int k (if w=true then max a b else min a b))
 |_,_=>none
def aQq{k k':IntKind}{a b:Int}:aGJ true (.int k a) (.int k' b)=some (.int k (max a b)):=rfl
def aQr{k k':IntKind}{a b:Int}:aGJ false (.int k a) (.int k' b)=some (.int k (min a b)):=rfl
def aTu{w:Bool}{x y:Ip}:AP S s m fr (.mxm w x y) K=IE (aGJ w (x.ev s) (y.ev s)) (λd=>K d []) .mk:=by
 simp only[AP,AG];unfold aGJ;cases x.ev s<;>cases y.ev s<;>simp[A5,Bi]
def DR(b v:Nat):Option D->Option Nat
 |none=>some b
 |some (.int _ n)=>if 0<=n∧n<=v then some n.toNat else none
 |some _=>none
def Lb(s:Nat->D):Option Ip->Option D
 |none=>none
 |some a=>some (a.ev s)
def jX:Lb s none=none:=rfl
def jW{a:Ip}:Lb s (some a)=some (a.ev s):=rfl
def fV{a b:Nat}:DR a b none=some a:=rfl
def nE{a b:Nat}{k:IntKind}{n:Int}:DR a b (some (.int k n))=if 0<=n∧n<=b then some n.toNat else none:=rfl
def fU{x:Option Ip}{a b:Nat}:GI s x a b=DR a b (Lb s x):=by
 cases x with
 |none=>rfl
 |some x=>simp only[GI,Lb,DR];cases x.ev s<;>rfl
def aDH:D->Option D->Option D->(K:D->Ir->Prop)->Tag K->Prop
 | .str b,lo,hi,K,_=>IE (DR b.length b.length hi) (λh=>IE (DR 0 h lo) (λl=>K (.str ((b.drop l).take (h-l))) []) .mk) .mk
 |_,_,_,_,_=>False
def xV{b:List UInt8}{lo hi:Option D}{g:Tag K}:aDH (.str b) lo hi K g=IE (DR b.length b.length hi) (λh=>IE (DR 0 h lo) (λl=>K (.str ((b.drop l).take (h-l))) []) .mk) .mk:=rfl
def aPL{x:Ip}{lo hi:Option Ip}:AP S s m fr (.cuts x lo hi) K=aDH (x.ev s) (Lb s lo) (Lb s hi) K .mk:=by
 simp only[AP,AG];unfold aDH;cases x.ev s<;>simp only[A5,fU];rename_i b;cases DR b.length b.length (Lb s hi)with
 |none=>simp only[A5]
 |some h=>
  simp only[Bi];cases DR 0 h (Lb s lo)with
  |none=>simp only[A5]
  |some l=>simp only[Bi]
def aDI(sz:Nat):D->Option D->Option D->(K:D->Ir->Prop)->Tag K->Prop
 | .slice nl _ xs,lo,hi,K,_=>AF (aE xs sz=sz) (IE (DR xs.length xs.length hi) (λh=>IE (DR 0 h lo) (λl=>K (.slice nl [] ((xs.drop l).take (h-l))) []) .mk) .mk) .mk
 |_,_,_,_,_=>False
def fG{sz:Nat}{nl:Bool}{t:Id}{xs:List D}{lo hi:Option D}{g:Tag K}:aDI sz (.slice nl t xs) lo hi K g=AF (aE xs sz=sz) (IE (DR xs.length xs.length hi) (λh=>IE (DR 0 h lo) (λl=>K (.slice nl [] ((xs.drop l).take (h-l))) []) .mk) .mk) .mk:=rfl
def aPM{sz:Nat}{x:Ip}{lo hi:Option Ip}:AP S s m fr (.cutl sz x lo hi) K=aDI sz (x.ev s) (Lb s lo) (Lb s hi) K .mk:=by
 simp only[AP,AG];unfold aDI;cases x.ev s<;>simp only[A5,fU];rename_i nl t xs;rw[Fl];cases DR xs.length xs.length (Lb s hi)with
 |none=>simp[IE,AF]
 |some h=>
  simp only;cases h1:DR 0 h (Lb s lo)with
  |none=>simp[IE,AF,h1]
  |some l=>simp[IE,AF,h1]
def aPF{t:TypeId}{x:Ip}:AP S s m fr (.mkif t x) K=AF ((x.ev s).data=true∧(x.ev s).un.calm=true) (K (.iface t (x.ev s).un) []) .mk:=by
 simp only[AP,AG];rw[Fl,Bi]
def aRc(i:Nat):D->Option D
 | .tup vs=>vs[i]?
 |_=>none
def aC6{i:Nat}{vs:List D}:aRc i (.tup vs)=vs[i]?:=rfl
def aTw{i:Nat}{x:Ip}:AP S s m fr (.ext i x) K=IE (aRc i (x.ev s)) (λd=>K d []) .mk:=by
 simp only[AP,AG];unfold aRc;cases x.ev s<;>simp[A5,Dl]
def aPG{f:FuncId}{caps:List Ip}:AP S s m fr (.mkfn f caps) K=K (.fn f (caps.map (·.ev s))) []:=by simp[AP,AG,IE]
def aTv{b:Bool}{x:Ip}:AP S s m fr (.len b x) K=IE (dR b (x.ev s)) (λn=>K (.int .i64 (n:Int)) []) .mk:=X7
def aCi{b:List UInt8}:dR true (.str b)=some b.length:=rfl
def kV{nl:Bool}{t:Id}{xs:List D}:dR false (.slice nl t xs)=some xs.length:=rfl
def aCj{i:Id}{n:Nat}:dR false (.row i n)=some n:=rfl
def L8(m:Ig)(e:Nat):D->Prop
 | .slice nl t _=>nl=true∨(m t 0=some (.tok (e+1))∧t≠[])
 |_=>False
def Bm(e:Nat)(fr:Id):D->Ir
 | .slice true _ _=>[(fr,0,[.tok (e+1)])]
 | .slice false t _=>[(t,0,[.tok 0]),(fr,0,[.tok (e+1)])]
 |_=>[]
def aRB(e sz bytes:Nat)(fr:Id):D->Option (List D)->(m:Ig)->(K:D->Ir->Prop)->Tag (m,K)->Prop
 | .slice nl t xs,some ys,m,K,_=>PO (nl=true∧ys=[]) (K (.slice true [] []) [])
   (AF ((xs.length+ys.length)*(bytes+1)<=140737488355328∧aE ys sz=sz∧L8 m e (.slice nl t xs)) (K (.slice false fr (if nl=true then ys else xs++ys)) (Bm e fr (.slice nl t xs))) .mk) .mk
 |_,_,_,_,_=>False
def WK{sz:Nat}{nl:Bool}{t:Id}{ys:List D}:L5 sz (.slice nl t ys)=some ys:=rfl
def nK{sz:Nat}{b:List UInt8}:L5 sz (.str b)=if sz=1 then some (Ax b)else none:=rfl
def nL{e sz bytes:Nat}{nl:Bool}{t:Id}{xs ys:List D}{g:Tag (m,K)}:aRB e sz bytes fr (.slice nl t xs) (some ys) m K g=PO (nl=true∧ys=[]) (K (.slice true [] []) [])
   (AF ((xs.length+ys.length)*(bytes+1)<=140737488355328∧aE ys sz=sz∧L8 m e (.slice nl t xs)) (K (.slice false fr (if nl=true then ys else xs++ys)) (Bm e fr (.slice nl t xs))) .mk) .mk:=rfl
def BN{nl:Bool}{xs ys:List D}(h:nl=true->xs=[]):(if nl=true then ys else xs++ys)=xs++ys:=by
 simp_all
def aTB{e sz bytes:Nat}{x y:Ip}:AP S s m fr (.app e sz bytes x y) K=aRB e sz bytes fr (x.ev s) (L5 sz (y.ev s)) m K .mk:=by
 simp only[AP,AG];unfold aRB;cases x.ev s<;>cases L5 sz (y.ev s)<;>simp only[A5];rename_i nl t xs ys;by_cases u:nl=true∧ys=[]
 ·grind [Bi,PO]
 ·rw[if_neg u];have e1:∀A B:Prop,PO (nl=true∧ys=[]) A B .mk=B:=λA B=>by simp[PO,u]
  rw[e1,Fl];cases nl with
  |true=>simp[IE,AF,Bm,L8,and_assoc]
  |false=>
   simp only[QZ,L8,Bm,false_or];cases hm:m t 0 with
   |none=>simp[IE,AF]
   |some d=>
    cases d with
    |tok k=>
     by_cases j:k=e+1∧t≠[]
     ·grind [IE,AF]
     ·grind [IE,AF]
    |_=>simp[IE,AF]
def aB0(e sz bytes:Nat)(z:D)(fr:Id):D->D->(K:D->Ir->Prop)->Tag K->Prop
 | .int _ n,.int _ c,K,_=>AF (0<=n∧n<=c∧c*(bytes+1)<=140737488355328∧z.cells.length=sz) (if z.isRw=true then AF (n=c) (K (.row fr n.toNat) [(fr,0,Ze n.toNat z)]) .mk else K (.slice false fr (Ze n.toNat z)) [(fr,0,[.tok (e+1)])]) .mk
 |_,_,_,_=>False
def vO{e sz bytes:Nat}{z:D}{k k':IntKind}{n c:Int}{g:Tag K}:aB0 e sz bytes z fr (.int k n) (.int k' c) K g=AF (0<=n∧n<=c∧c*(bytes+1)<=140737488355328∧z.cells.length=sz) (if z.isRw=true then AF (n=c) (K (.row fr n.toNat) [(fr,0,Ze n.toNat z)]) .mk else K (.slice false fr (Ze n.toNat z)) [(fr,0,[.tok (e+1)])]) .mk:=rfl
def aHy:D.isRw .nilIface=true:=rfl
def aCA{k:IntKind}{n:Int}:D.isRw (.int k n)=false:=rfl
def aCz:D.isRw (.str [])=true:=rfl
def wC{b:Bool}:D.isRw (.bool b)=false:=rfl
def lC{nl:Bool}{t:Id}{xs:List D}:D.isRw (.slice nl t xs)=false:=rfl
def aCB{xs:List D}:D.isRw (.agg xs)=false:=rfl
def aPE{e sz bytes:Nat}{z:D}{n c:Ip}:AP S s m fr (.mksl e sz bytes z n c) K=aB0 e sz bytes z fr (n.ev s) (c.ev s) K .mk:=by
 simp only[AP,AG];unfold aB0;cases n.ev s<;>cases c.ev s<;>first|(simp only[A5];done)|skip
 by_cases p:z.isRw=true
 ·simp_all [Fl,Bi,AF]
 ·simp_all [Fl,Bi,AF]
def S0(S:Ic):D->List D->(m:Ig)->Id->(K:D->Ir->Prop)->Tag (m,K)->Prop
 | .fn f caps,ds,m,fr,K,_=>IE (S f) (λq=>IE (q.ex (ds++caps) m fr) (λx=>K x.1 x.2) .mk) .mk
 |_,_,_,_,_,_=>False
def aPO{f:Ip}{xs:List Ip}:AP S s m fr (.call f xs) K=S0 S (f.ev s) (xs.map (·.ev s)) m fr K .mk:=by
 simp only[AP,AG];unfold S0;cases f.ev s<;>simp only[A5];rename_i f caps;cases S f with
 |none=>simp only[A5]
 |some q=>simp only[Bi]
def AN{f:FuncId}{caps ds:List D}{q:IS}{g:Tag (m,K)}(h:S f=some q):S0 S (.fn f caps) ds m fr K g=IE (q.ex (ds++caps) m fr) (λx=>K x.1 x.2) .mk:=by
 grind [S0,Bi]
def Ab{f:FuncId}{caps ds:List D}{F:List D->Option D}{g:Tag (m,K)}(h:S f=some (Af F)):S0 S (.fn f caps) ds m fr K g=AF (((ds++caps).map D.un).all D.calm=true) (IE (F ((ds++caps).map D.un)) (λr=>K r []) .mk) .mk:=by
 rw[AN h];simp only[Af,Fl,AF];rw[Dl]
def AR(S:Ic)(f:FuncId){q:IS}(h:S f=some q:=by exact rfl){caps ds:List D}{g:Tag (m,K)}:S0 S (.fn f caps) ds m fr K g=IE (q.ex (ds++caps) m fr) (λx=>K x.1 x.2) .mk:=AN h
def Ac(S:Ic)(f:FuncId){F:List D->Option D}(h:S f=some (Af F):=by exact rfl){caps ds:List D}{g:Tag (m,K)}:S0 S (.fn f caps) ds m fr K g=AF (((ds++caps).map D.un).all D.calm=true) (IE (F ((ds++caps).map D.un)) (λr=>K r []) .mk) .mk:=Ab h
end
def Ae{S:Ic}{ns:Id}{c a:DC}{Q:Ex->St->Prop}{z:St}{t:Tag (S,ns,c,Q,z)}(h:c=a)(k:a.wp S ns (dO S ns c Q) z):A2 S ns c Q z t:=aAt (h▸k)
section
variable{k:IntKind}{a b:Int}
def aTW:AJ .add (.int k a) (.int k b)=some (.int k (k.wrap (a+b))):=Xj
def aK7:AJ .sub (.int k a) (.int k b)=some (.int k (k.wrap (a-b))):=Xj
def aTO:AJ .mul (.int k a) (.int k b)=some (.int k (k.wrap (a*b))):=Xj
def aTK:AJ .quo (.int k a) (.int k b)=if b≠0 then some (.int k (k.wrap (a.tdiv b)))else none:=by by_cases h:b=0<;>simp[AJ,h]
def aTJ:AJ .rem (.int k a) (.int k b)=if b≠0 then some (.int k (a.tmod b))else none:=by by_cases h:b=0<;>simp[AJ,h]
def aTV:AJ .and (.int k a) (.int k b)=some (.int k (bits .and k a b)):=Xj
def aZK:AJ .or (.int k a) (.int k b)=some (.int k (bits .or k a b)):=Xj
def aTG:AJ .xor (.int k a) (.int k b)=some (.int k (bits .xor k a b)):=Xj
def aTT:AJ .eql (.int k a) (.int k b)=some (.bool (decide (a=b))):=by simp[AJ];rfl
def aTM:AJ .neq (.int k a) (.int k b)=some (.bool (decide (¬a=b))):=by simp[AJ];rfl
def aTP:AJ .lss (.int k a) (.int k b)=some (.bool (decide (a<b))):=Xj
def aTQ:AJ .leq (.int k a) (.int k b)=some (.bool (decide (a<=b))):=Xj
def aTR:AJ .gtr (.int k a) (.int k b)=some (.bool (decide (b<a))):=Xj
def aTS:AJ .geq (.int k a) (.int k b)=some (.bool (decide (b<=a))):=Xj
def aTI{k':IntKind}:AJ .shl (.int k a) (.int k' b)=if 0<=b then some (.int k (k.wrap (a*2 ^ min b.toNat k.bits)))else none:=Xj
def aTH{k':IntKind}:AJ .shr (.int k a) (.int k' b)=if 0<=b then some (.int k (a.fdiv (2 ^ min b.toNat k.bits)))else none:=Xj
variable{x y:List UInt8}
def aTU:AJ .add (.str x) (.str y)=if x.length+y.length<=9223372036854775807 then some (.str (x++y))else none:=Xj
def aPS:AJ .eql (.str x) (.str y)=some (.bool (decide (x=y))):=by
 grind [AJ]
def aPR:AJ .neq (.str x) (.str y)=some (.bool (decide (¬x=y))):=by
 grind [AJ]
def aTL{p:Bool}:xD .not (.bool p)=some (.bool (!p)):=rfl
def aTN:xD .neg (.int k a)=some (.int k (k.wrap (0-a))):=rfl
end
def aGG{p:Prop}[Decidable p]:(!decide p)=decide (¬p):=by by_cases h:p<;>simp[h]
def aDl{p:Prop}[Decidable p]:(decide p=true)=p:=U
def xS{p:Prop}[Decidable p]:(decide p=false)=¬p:=U
def bAR:(false=true)=False:=U
def aZL:(true=false)=False:=U
def aHB{p A B:Prop}{t:Tag (A,B)}:PO (¬p) A B t=PO p B A .mk:=by
 grind [PO]
def uV{o:DOper}{l:List DOper}:BB (o::l) 0=o.dst:=rfl
def uW{o:DOper}{l:List DOper}{j:Nat}:BB (o::l) (j+1)=BB l j:=by simp[BB]
def aH7{m:Ig}:Ir.app m []=m:=rfl
def aEb{m:Ig}{i:Id}{o:Nat}{ds:List D}{u:Ir}:Ir.app m ((i,o,ds)::u)=Ir.app (m.put i o ds) u:=rfl
def bX:BQ []=some []:=rfl
def U9{n:Int}{r:List D}:BQ (.int .u8 n::r)=(BQ r).map (UInt8.ofNat n.toNat::·):=rfl
def Vz{α β:Type}{f:α->β}{x:α}:(some x).map f=some (f x):=rfl
def eW{rs:List RV}{R:D->Ig->Prop}{z:St}:Ew rs R .normal z=IE (Cw rs z.s z.m) (λd=>R d z.m) .mk:=by
 simp[Ew,IE]
def aC9{rs:List RV}{R:D->Ig->Prop}{z:St}:Ew rs R .ret z=IE (Cw rs z.s z.m) (λd=>R d z.m) .mk:=by
 simp[Ew,IE]
def xF{rs:List RV}{R:D->Ig->Prop}{z:St}{i:Nat}:Ew rs R (.exit i) z=False:=by
 simp[Ew]
def aGo{s:Nat->D}{m:Ig}{t:Nat}:Cw [.t t] s m=some (s t):=rfl
def aGn{s:Nat->D}{m:Ig}{t x:Nat}:Cw [.t t,.t x] s m=some (.tup [s t,s x]):=rfl
def vG{s:Nat->D}{m:Ig}{t x j:Nat}:Cw [.t t,.t x,.t j] s m=some (.tup [s t,s x,s j]):=rfl
def aBh{s:Nat->D}{m:Ig}:Cw [] s m=some (.tup []):=rfl
def lS{d:D}{ds:List D}:BR (d::ds) 0=d:=rfl
def lT{d:D}{ds:List D}{t:Nat}:BR (d::ds) (t+1)=BR ds t:=rfl
def xE{t:Nat}:BR [] t= .junk:=rfl
def cS(S:Ic)(ns:Id)(c:Nat)(ops l:List DOper)(k:Nat)(s:Nat->D)(dst:Option Nat)(m:Ig)(K:Nat->(Nat->D)->Ig->Prop)(d:D)(u:Ir):Prop:=CJ S ns c ops l k (Ct s dst d) (Ir.app m u) K
def OY(S:Ic)(ns:Id)(c:Nat)(ops l:List DOper)(k:Nat)(s:Nat->D)(dst:Option Nat)(m:Ig)(op:DOp)(K:Nat->(Nat->D)->Ig->List NH->Prop)(d:D)(u:Ir):Prop:=
 CI S ns c ops l k (Ct s dst d) (Ir.app m u) λk' w m' f=>K k' w m' ((Lf S s m op,BP u)::f)
section
variable{S:Ic}{ns:Id}{c k:Nat}{ops l:List DOper}{s:Nat->D}{m:Ig}{dst:Option Nat}{op:DOp}{af:List Nat}{j:Nat}{b:Bool}{d:D}{i:Id}{o e:Nat}{fr:Id}{ds:List D}{u:Ir}
section
variable{K:Nat->(Nat->D)->Ig->Prop}
def aGe:CJ S ns c ops [] k s m K=K k s m:=rfl
def aGd:CJ S ns c ops (⟨dst,op,af,none⟩::l) k s m K=AP S s m ((c+k)::ns) op (cS S ns c ops l (k+1) s dst m K):=rfl
def aP6:CJ S ns c ops (⟨dst,op,af,some (j,b)⟩::l) k s m K=Nq (H0 s (BB ops j)) b
   (AP S s m ((c+k)::ns) op (cS S ns c ops l (k+1) s dst m K)) (CJ S ns c ops l (k+1) (Ct s dst (.tup [])) m K) .mk:=rfl
def aBb:cS S ns c ops l k s dst m K d []=CJ S ns c ops l k (Ct s dst d) m K:=rfl
def vF:cS S ns c ops l k s dst m K d ((i,o,ds)::u)=cS S ns c ops l k s dst (m.put i o ds) K d u:=rfl
def OH{i:D}:cS S ns c ops l k s dst m K d (Bm e fr i)=CJ S ns c ops l k (Ct s dst d) (Ir.app m (Bm e fr i)) K:=rfl
end
variable{K:Nat->(Nat->D)->Ig->List NH->Prop}
def xI:CI S ns c ops [] k s m K=K k s m []:=rfl
def xH:CI S ns c ops (⟨dst,op,af,none⟩::l) k s m K=AP S s m ((c+k)::ns) op (OY S ns c ops l (k+1) s dst m op K):=rfl
def aDc:CI S ns c ops (⟨dst,op,af,some (j,b)⟩::l) k s m K=Nq (H0 s (BB ops j)) b
   (AP S s m ((c+k)::ns) op (OY S ns c ops l (k+1) s dst m op K))
   (CI S ns c ops l (k+1) (Ct s dst (.tup [])) m λk' w m' f=>K k' w m' ((Lf S s m op,[])::f)) .mk:=rfl
def lV:OY S ns c ops l k s dst m op K d []=CI S ns c ops l k (Ct s dst d) m λk' w m' f=>K k' w m' ((Lf S s m op,[])::f):=rfl
def eZ:OY S ns c ops l k s dst m op K d ((i,o,ds)::u)=CI S ns c ops l k (Ct s dst d) (Ir.app (m.put i o ds) u) λk' w m' f=>K k' w m' ((Lf S s m op,BP ((i,o,ds)::u))::f):=rfl
def eY{i:D}:OY S ns c ops l k s dst m op K d (Bm e fr i)=CI S ns c ops l k (Ct s dst d) (Ir.app m (Bm e fr i)) λk' w m' f=>K k' w m' ((Lf S s m op,BP (Bm e fr i))::f):=rfl
end
def aDF{k:IntKind}{n:Int}:D.data (.int k n)=true:=rfl
def aDD{b:List UInt8}:D.data (.str b)=true:=rfl
def xU{b:Bool}:D.data (.bool b)=true:=rfl
def mR{nl:Bool}{t:Id}{xs:List D}:D.data (.slice nl t xs)=true:=rfl
def aDG{xs:List D}:D.data (.agg xs)=true:=rfl
def aDE{i:Id}{o:Nat}:D.data (.ptr i o)=true:=rfl
def fF:D.data .nilptr=true:=rfl
def yC{k:IntKind}{n:Int}:D.cells (.int k n)=[.int k n]:=rfl
def yA{b:List UInt8}:D.cells (.str b)=[.str b]:=rfl
def mV{b:Bool}:D.cells (.bool b)=[.bool b]:=rfl
def Fa{nl:Bool}{t:Id}{xs:List D}:D.cells (.slice nl t xs)=[.slice nl t xs]:=rfl
def yD{xs:List D}:D.cells (.agg xs)=xs:=rfl
def yB{i:Id}{o:Nat}:D.cells (.ptr i o)=[.ptr i o]:=rfl
def aPV{k:IntKind}{n:Int}:D.un (.int k n)= .int k n:=rfl
def aPU{b:List UInt8}:D.un (.str b)= .str b:=rfl
def aFN{b:Bool}:D.un (.bool b)= .bool b:=rfl
def aAB{nl:Bool}{t:Id}{xs:List D}:D.un (.slice nl t xs)= .slice nl [] xs:=rfl
def aPW{xs:List D}:D.un (.agg xs)= .agg (xs.map D.un1):=rfl
def aTX{f:FuncId}{cs:List D}:D.un (.fn f cs)= .fn f cs:=rfl
def aFT{k:IntKind}{n:Int}:D.un1 (.int k n)= .int k n:=rfl
def aFS{b:List UInt8}:D.un1 (.str b)= .str b:=rfl
def aAD{b:Bool}:D.un1 (.bool b)= .bool b:=rfl
def uK{nl:Bool}{t:Id}{xs:List D}:D.un1 (.slice nl t xs)= .slice nl [] xs:=rfl
def aFQ{k:IntKind}{n:Int}:D.unR (.int k n)= .int k n:=rfl
def aFP{b:List UInt8}:D.unR (.str b)= .str b:=rfl
def aAC{b:Bool}:D.unR (.bool b)= .bool b:=rfl
def uJ{nl:Bool}{t:Id}{xs:List D}:D.unR (.slice nl t xs)= .slice nl [] xs:=rfl
def aFR{xs:List D}:D.unR (.agg xs)= .agg (xs.map D.un1):=rfl
def aFO{xs:List D}:D.unR (.tup xs)= .tup (xs.map D.un):=rfl
def aDW{k:IntKind}{n:Int}:D.calm (.int k n)=true:=rfl
def aDU{b:List UInt8}:D.calm (.str b)=true:=rfl
def yG{b:Bool}:D.calm (.bool b)=true:=rfl
def mW{nl:Bool}{xs:List D}:D.calm (.slice nl [] xs)=true:=rfl
def yH{xs:List D}:D.calm (.agg xs)=xs.all D.calm1:=rfl
def aH1{f:FuncId}:D.calm (.fn f [])=true:=rfl
def yN{k:IntKind}{n:Int}:D.calm1 (.int k n)=true:=rfl
def yM{b:List UInt8}:D.calm1 (.str b)=true:=rfl
def mZ{b:Bool}:D.calm1 (.bool b)=true:=rfl
def fR{nl:Bool}{xs:List D}:D.calm1 (.slice nl [] xs)=true:=rfl
def yK{k:IntKind}{n:Int}:D.calmR (.int k n)=true:=rfl
def yJ{b:List UInt8}:D.calmR (.str b)=true:=rfl
def mY{b:Bool}:D.calmR (.bool b)=true:=rfl
def fQ{nl:Bool}{xs:List D}:D.calmR (.slice nl [] xs)=true:=rfl
def yL{xs:List D}:D.calmR (.agg xs)=xs.all D.calm1:=rfl
def yI{xs:List D}:D.calmR (.tup xs)=xs.all D.calm:=rfl
def aQK{f:D->D}{x:D}{xs:List D}:(x::xs).map f=f x::xs.map f:=rfl
def aHt{f:D->D}:ZK f []=[]:=rfl
def aQJ{f:Ip->D}{x:Ip}{xs:List Ip}:(x::xs).map f=f x::xs.map f:=rfl
def aHs{f:Ip->D}:ZK f []=[]:=rfl
def aQI{f:Nat×Nat×Ip->Nat×Nat×D}{x:Nat×Nat×Ip}{xs:List (Nat×Nat×Ip)}:(x::xs).map f=f x::xs.map f:=rfl
def aHr{f:Nat×Nat×Ip->Nat×Nat×D}:ZK f []=[]:=rfl
def aWd{f:D->Bool}{x:D}{xs:List D}:(x::xs).all f=(f x&&xs.all f):=rfl
def aQR{f:D->Bool}:List.all [] f=true:=rfl
def aWb{x:D}{xs:List D}:(x::xs).length=xs.length+1:=rfl
def aQL:([]:List D).length=0:=rfl
def aWc{x:D}{xs ys:List D}:(x::xs)++ys=x::(xs++ys):=rfl
def aQQ{ys:List D}:[]++ys=ys:=rfl
def aQP{ys:List D}:ys++[]=ys:=U
def aQO{x:D}{xs:List D}:(x::xs)[0]?=some x:=rfl
def aQN{x:D}{xs:List D}{n:Nat}:(x::xs)[n+1]?=xs[n]?:=rfl
def aQM{x:D}{xs:List D}:(x::xs).head?=some x:=rfl
def aV7{n:Nat}:(n==n)=true:=U
def aQe:(True∧True)=True:=U
def aT6{p:Prop}:(True∧p)=p:=U
def aQf{p:Prop}:(p∧True)=p:=U
def aZO:(¬False)=True:=U
def aZN:(¬True)=False:=U
def bAX:(true=true)=True:=U
def bAY:(false=false)=True:=U
def bAS:decide True=true:=U
def bAT:decide False=false:=U
def C2:=Qn @cM <| Qn @aAO <| Qn @uZ <| Qn @TC <| Qn @nF <| Qn @Fb <| Qn @VK <| Qn @vV <| Qn @kT <| Qn @aAs <| Qn @aFH <| Qn @aAu <| Qn @aFF <| Qn @bQ <| Qn @iT <| Qn @uE <| Qn @bP <| Qn @iS <| Qn @uX <| Qn @uY <| Qn @bF <| Qn @bG <| Qn @aZD <| Qn @aPC <| Qn @aFE <| Qn @aTx <| Qn @aFD <| Qn @aAq <| Qn @aPH <| Qn @aFx <| Qn @aPD <| Qn @aFw <| Qn @aAp <| Qn @aTy <| Qn @aZC <| Qn @aTz <| Qn @aTr <| Qn @aFy <| Qn @aPN <| Qn @aTs <| Qn @aTt <| Qn @aTA <| Qn @aFC <| Qn @aFB <| Qn @aFz <| Qn @aPI <| Qn @aPK <| Qn @aPJ <| Qn @aTu <| Qn @aFA <| Qn @aPL <| Qn @aPM <| Qn @aPF <| Qn @aTw <| Qn @aPG <| Qn @aTv <| Qn @aTB <| Qn @aPE <| Qn @aPO <| Qn @eW <| Qn @aC9 <| Qn @xF <| Qn @aGo <| Qn @aGn <| Qn @vG <| Qn @aBh <| Qn @aGe <| Qn @aGd <| Qn @aP6 <| Qn @aBb <| Qn @vF <| Qn @OH <| Qn @lV <| Qn @eZ <| Qn @eY <| Qn @xI <| Qn @xH <| Qn @aDc <| Qn @uV @uW
def Ih:=Qn @U2 <| Qn @aCK <| Qn @wF <| Qn @Bi <| Qn @A5 <| Qn @Fl <| Qn @Dl <| Qn @LU <| Qn @lM <| Qn @Dt <| Qn @NB <| Qn @jT <| Qn @vW <| Qn @jR <| Qn @vN <| Qn @aBT <| Qn @kU <| Qn @Sv <| Qn @Pv <| Qn @jE <| Qn @dD <| Qn @VF <| Qn @kE <| Qn @aRx <| Qn @aRw <| Qn @aAN <| Qn @xW <| Qn @aA0 <| Qn @aA1 <| Qn @nI <| Qn @lQ <| Qn @eU <| Qn @eT <| Qn @lP <| Qn @VQ <| Qn @wG <| Qn @wK <| Qn @wH <| Qn @aQq <| Qn @aQr <| Qn @lF <| Qn @xV <| Qn @fG <| Qn @jX <| Qn @jW <| Qn @fV <| Qn @nE <| Qn @aC6 <| Qn @aCi <| Qn @kV <| Qn @aCj <| Qn @nL <| Qn @WK <| Qn @nK <| Qn @vO <| Qn @aHy <| Qn @aCA <| Qn @aCz <| Qn @wC <| Qn @lC <| Qn @aCB <| Qn @lE <| Qn @aTW <| Qn @aK7 <| Qn @aTO <| Qn @aTK <| Qn @aTJ <| Qn @aTV <| Qn @aZK <| Qn @aTG <| Qn @aTT <| Qn @aTM <| Qn @aTP <| Qn @aTQ <| Qn @aTR <| Qn @aTS <| Qn @aTI <| Qn @aTH <| Qn @aTU <| Qn @aPS <| Qn @aPR <| Qn @aTL <| Qn @aTN <| Qn @aGG <| Qn @aDl <| Qn @xS <| Qn @bAR <| Qn @aZL <| Qn @aHB <| Qn @aH7 <| Qn @aEb <| Qn @bX <| Qn @U9 <| Qn @Vz <| Qn @lS <| Qn @lT @xE
def IM:=Qn @aDF <| Qn @aDD <| Qn @xU <| Qn @mR <| Qn @aDG <| Qn @aDE <| Qn @fF <| Qn @yC <| Qn @yA <| Qn @mV <| Qn @Fa <| Qn @yD <| Qn @yB <| Qn @aPV <| Qn @aPU <| Qn @aFN <| Qn @aAB <| Qn @aPW <| Qn @aTX <| Qn @aFT <| Qn @aFS <| Qn @aAD <| Qn @uK <| Qn @aFQ <| Qn @aFP <| Qn @aAC <| Qn @uJ <| Qn @aFR <| Qn @aFO <| Qn @aDW <| Qn @aDU <| Qn @yG <| Qn @mW <| Qn @yH <| Qn @aH1 <| Qn @yN <| Qn @yM <| Qn @mZ <| Qn @fR <| Qn @yK <| Qn @yJ <| Qn @mY <| Qn @fQ <| Qn @yL @yI
def Ii:=Qn @aQK <| Qn @aHt <| Qn @aQJ <| Qn @aHs <| Qn @aQI <| Qn @aHr <| Qn @aWd <| Qn @aQR <| Qn @aWb <| Qn @aQL <| Qn @aWc <| Qn @aQQ <| Qn @aQP <| Qn @aQO <| Qn @aQN <| Qn @aQM <| Qn @aV7 <| Qn @aQe <| Qn @aT6 <| Qn @aQf <| Qn @aZO <| Qn @aZN <| Qn @bAX <| Qn @bAY <| Qn @bAS <| Qn @bAT <| Qn @ZH <| Qn @Bool.and_true <| Qn @Bool.not_true @Bool.not_false
def Is:(type_of% @QC.{0})∧(type_of% @Qt.{0})∧(type_of% @QJ.{0})∧(type_of% @QO.{0})∧(type_of% @QK)∧(type_of% @QU)∧(type_of% @Qz)∧(type_of% @and_self)∧(type_of% @Ih)∧(type_of% @IM)∧(type_of% @Ii):=
 ⟨@QC,@Qt,@QJ,@QO,@QK,@QU,@Qz,@and_self,@Ih,@IM,@Ii⟩
def gB1:(type_of% @QM.{0,0})∧(type_of% @QX.{0,0})∧(type_of% @Ih)∧(type_of% @IM)∧(type_of% @Ii):=
 ⟨@QM,@QX,@Ih,@IM,@Ii⟩
def Iw:(type_of% @QJ.{0})∧(type_of% @QO.{0})∧(type_of% @QU)∧(type_of% @Ih)∧(type_of% @IM):=
 ⟨@QJ,@QO,@QU,@Ih,@IM⟩
def Ij:(type_of% @Ih)∧(type_of% @IM)∧(type_of% @Ii):=
 ⟨@Ih,@IM,@Ii⟩
def Ai {P:Program} {f:FuncId} {N:Nat} {p:DC} {rs:List RV} {z:Func} {x:Code} (u:P.funcs[f]?=some z) (q:z.body=some x:=by rfl) (o:(z.name== "runtime.NumGoroutine")=false:=by kernel_rfl) (b:z.ntmps=N:=by rfl) (m:AM P N x=some p:=by kernel_rfl) (k:MN P z.results.toList=some rs:=by kernel_rfl):Fn P f N p rs:=⟨z,x,u,q,o,b,m,k⟩
def DM(G:Nat->Nat):Gh:={G:=G,G0:=G,dl:=λ_=>none,tb:=λ_=>none}
def OC(P:Program)(w:World){G:Nat->Nat}(y:∀b,w.heap.size<=b->G b=0):Iv P w.heap.size w (λ_ _=>none) w (DM G):=
 ⟨Below.refl _ _,QF _,y,λ_ _=>rfl,λi b h=>by simp[DM]at h,λi a b h=>by simp[DM]at h,λi o d h=>Xe,λi e h=>Xe,λi a e r b x z h=>Xe,λi s p h=>Xe,λi a s p t k b x z h=>Xe⟩
def aP5{P:Program}{f:FuncId}{F:List D->Option D}(h:(Af F).ok P f){w:World}{G:Nat->Nat}(p:∀b,w.heap.size<=b->G b=0){ds:List D}{vs:List Value}{d:D}(z:vs.length=ds.length)
  (t:∀(j:Nat) d v,ds[j]?=some d->vs[j]?=some v->Im w (DM G) d v) (hu:ds.map D.un=ds) (k:ds.all D.calm=true) (g:F ds=some d):
  Calls P f vs.toArray w λe n=>∃v l,e= .returned v∧Im n l d v∧Below w.heap.size w n:=by
 have y:(Af F).ex ds (λ_ _=>none) []=some (d,[]):=by
  grind [Af]
 refine(h.run (OC P w p) (λi _=>⟨λ_=>rfl,rfl,rfl⟩) z t y).mono ?_;rintro e n ⟨v,l,rfl,m⟩;exact⟨v,l,rfl,m.rep,m.inv.below⟩
def aA9{P:Program}{f:FuncId}{F:List D->Option D}(h:(Af F).ok P f){w:World}{G:Nat->Nat}(p:∀b,w.heap.size<=b->G b=0){ds:List D}{vs:List Value}(z:vs.length=ds.length)
  (t:∀(j:Nat) d v,ds[j]?=some d->vs[j]?=some v->Im w (DM G) d v) (m:ds.map D.un=ds) (k:ds.all D.calm=true) (g:F ds=some (.bool true)):
  Calls P f vs.toArray w λe n=>e= .returned (.bool true)∧Below w.heap.size w n:=by
 refine(aP5 h p z t m k g).mono ?_;rintro e n ⟨v,l,rfl,y,i⟩;rw[y.bool_inv];exact⟨rfl,i⟩
def Ec(f:List NH)(ps:List (Nat×Nat)):Bool:=ps.all λp=>(f.getD p.1 ([],[])).2.all λl=>!((f.getD p.2 ([],[])).1.contains l)&&!((f.getD p.2 ([],[])).2.contains l)
def Ce{f:List NH}{ps:List (Nat×Nat)}(h:Ec f ps=true):Nw f ps:=by
 intro p g l w;have u:=QA.1 h p g;have q:=QA.1 u l w;simpa using q
def Al{f:List NH}{ps:List (Nat×Nat)}{K:Prop}{t:Tag K}(k:K)(h:Ec f ps=true:=by first|rfl|simp[Ec,BP,Lf,A4,Af]):AF (Nw f ps) K t:=⟨Ce h,k⟩
def DC.run(S:Ic)(ns:Id):Nat->DC->St->Option (Ex×St)
 |0,_,_=>none
 |_+1,.skip,st=>some (.normal,st)
 |_+1,.ret,st=>some (.ret,st)
 |_+1,.exit i,st=>some (.exit i,st)
 |_+1,.row ops,st=>match E9 S ns st.c ops ops 0 st.s st.m with
  |some (s,m)=>some (.normal,⟨s,m,st.c+ops.length⟩)
  |none=>none
 |_+1,.drawn ops ps,st=>match CH S ns st.c ops ops 0 st.s st.m with
  |some (s,m,f)=>if Ec f ps=true then some (.normal,⟨s,m,st.c+ops.length⟩)else none
  |none=>none
 |n+1,.seq a b,st=>match DC.run S ns n a st with
  |some (.normal,st1)=>DC.run S ns n b st1
  |r=>r
 |n+1,.cond c a b,st=>match c.ev st.s with
  | .bool true=>DC.run S ns n a st
  | .bool false=>DC.run S ns n b st
  |_=>none
 |n+1,.block i c,st=>match DC.run S ns n c st with
  |some (.exit j,st1)=>if j=i then some (.normal,st1)else some (.exit j,st1)
  |r=>r
 |n+1,.loop c,st=>match DC.run S ns n c st with
  |some (.normal,st1)=>DC.run S ns n (.loop c) st1
  |r=>r
def aP4{S:Ic}{ns:Id}:∀(n:Nat)(p:DC)(z:St)(e:Ex)(la:St),DC.run S ns n p z=some (e,la)->Ev S ns p z e la:=by
 intro n;induction n with
 |zero=>intro p z e la h;simp[DC.run]at h
 |succ n ih=>
  intro p z e la h;cases p with
  |skip=>simp only[DC.run,Qo,Qy]at h;exact⟨h.1.symm,h.2.symm⟩
  |ret=>simp only[DC.run,Qo,Qy]at h;exact⟨h.1.symm,h.2.symm⟩
  |exit i=>simp only[DC.run,Qo,Qy]at h;exact⟨h.1.symm,h.2.symm⟩
  |row ops=>
   simp only[DC.run]at h;split at h
   ·rename_i s m x;simp only[Qo,Qy]at h;obtain⟨rfl,rfl⟩:=h;exact⟨rfl,x,rfl⟩
   ·cases h
  |drawn ops ps=>
   simp only[DC.run]at h;split at h
   ·rename_i s m f x;split at h
    ·rename_i hf;simp only[Qo,Qy]at h;obtain⟨rfl,rfl⟩:=h;exact⟨rfl,⟨f,x,Ce hf⟩,rfl⟩
    ·cases h
   ·cases h
  |seq a b=>
   simp only[DC.run]at h;split at h
   ·rename_i d u;exact⟨.normal,d,ih _ _ _ _ u,.inl ⟨rfl,ih _ _ _ _ h⟩⟩
   ·rename_i ma;refine⟨e,la,ih _ _ _ _ h,.inr ⟨λx=>?_,rfl,rfl⟩⟩;subst x;exact ma la h
  |cond c a b=>
   simp only[DC.run]at h;split at h
   ·rename_i v;exact .inl ⟨v,ih _ _ _ _ h⟩
   ·rename_i v;exact .inr ⟨v,ih _ _ _ _ h⟩
   ·cases h
  |block i c=>
   simp only[DC.run]at h;split at h
   ·rename_i j d u;split at h
    ·rename_i y;simp only[Qo,Qy]at h;obtain⟨rfl,rfl⟩:=h;exact⟨.exit j,ih _ _ _ _ u,.inl ⟨by rw[y],rfl⟩⟩
    ·rename_i y;simp only[Qo,Qy]at h;obtain⟨rfl,rfl⟩:=h;exact⟨.exit j,ih _ _ _ _ u,.inr ⟨by simp[y],rfl⟩⟩
   ·rename_i ma;refine⟨e,ih _ _ _ _ h,.inr ⟨λx=>?_,rfl⟩⟩;subst x;exact ma i la h
  |loop c=>
   simp only[DC.run]at h;split at h
   ·rename_i d u;obtain⟨k,g⟩:=ih _ _ _ _ h;exact⟨k+1,.more k _ _ _ _ (ih _ _ _ _ u) g⟩
   ·rename_i ma;refine⟨0,.stop _ _ _ (ih _ _ _ _ h) (λx=>?_)⟩;subst x;exact ma la h
def H3(S:Ic)(N:Nat)(p:DC)(rs:List RV)(fuel:Nat)(ds:List D):Option D:=
 if ds.length<=N then match DC.run S [] fuel p ⟨BR ds,λ_ _=>none,0⟩with
  |some (.exit _,_)=>none
  |some (_,st)=>match Cw rs st.s st.m with
   |some d=>if d.unR.calmR=true then some d.unR else none
   |none=>none
  |none=>none
 else none
def FH{P:Program}{S:Ic}{f:FuncId}{N:Nat}{p:DC}{rs:List RV}(v:Ic.ok P S)(a:Fn P f N p rs)(fuel:Nat):(Af (H3 S N p rs fuel)).ok P f:=by
 refine AD v a (λds r h=>?_) (λds r h=>?_)
 ·grind [H3]
 ·unfold H3 at h;split at h
  ·split at h
   ·cases h
   ·rename_i w z c y;split at h
    ·rename_i d l;split at h
     ·rename_i k;simp only[Qo]at h;subst h;refine⟨w,z,aP4 _ _ _ _ _ y,?_,d,l,rfl,k⟩;cases w with
      |normal=>exact .inl rfl
      |ret=>exact .inr rfl
      |exit i=>exact absurd rfl (c i)
     ·cases h
    ·cases h
   ·cases h
  ·cases h
end Go.Vd
namespace Go.Vd
open Go.Proofs Go.RowKit
inductive Tz where
 |bo|st|pt|fu|nf|mp|un
 |im (k:IntKind)
 |sl (e sz by':Nat)
 |gr (zs:List D) (fs:List (Nat×Nat))
 |ar (zs:List D) (len e:Nat)
def zT:Nat->Tz
 |3=> .im .i64
 |4=> .bo
 |5=> .im .u8
 |9=> .st
 |21=> .im .i32
 |22=> .sl 38 3 40
 |24=> .sl 109 2 40
 |26=> .gr [(.slice true [] []),(.slice true [] [])] [(0,22),(1,24)]
 |28=> .sl 9 1 16
 |29=> .sl 4 1 1
 |30=> .sl 28 1 24
 |32=> .gr [(.slice true [] []),(.slice true [] []),(.slice true [] []),(.slice true [] []),(.slice true [] [])] [(0,28),(1,28),(2,29),(3,28),(4,30)]
 |38=> .gr [(.str []),(.str []),(.bool false)] [(0,9),(1,9),(2,4)]
 |40=> .sl 118 3 32
 |41=> .sl 134 3 56
 |43=> .gr [(.bool false),(.int .i64 0),(.str []),(.slice true [] []),(.slice true [] [])] [(0,4),(1,3),(2,9),(3,40),(4,41)]
 |44=> .sl 3 1 8
 |45=> .sl 191 2 24
 |47=> .gr [(.int .u8 0),(.str []),(.str []),(.str []),(.int .i64 0),(.int .i64 0),(.bool false),(.slice true [] []),(.str []),(.slice true [] []),(.str [])] [(0,5),(1,9),(2,9),(3,9),(4,3),(5,3),(6,4),(7,44),(8,9),(9,45),(10,9)]
 |50=> .sl 124 3 32
 |52=> .gr [(.slice true [] [])] [(0,50)]
 |53=> .sl 97 3 56
 |55=> .gr [(.slice true [] [])] [(0,53)]
 |57=> .gr [(.bool false),(.int .i64 0),(.str []),(.slice true [] []),(.slice true [] [])] [(0,4),(1,3),(2,9),(3,52),(4,55)]
 |58=> .gr [(.bool false),(.int .i64 0),(.str []),(.slice true [] []),(.slice true [] [])] [(0,4),(1,3),(2,9),(3,40),(4,41)]
 |61=> .sl 209 2 24
 |63=> .gr [(.int .u8 0),(.str []),(.str []),(.str []),(.int .i64 0),(.int .i64 0),(.bool false),(.slice true [] []),(.str []),(.slice true [] []),(.str [])] [(0,5),(1,9),(2,9),(3,9),(4,3),(5,3),(6,4),(7,44),(8,9),(9,61),(10,9)]
 |65=> .sl 107 3 40
 |67=> .gr [(.str []),(.bool false),(.str []),(.slice true [] []),(.bool false),(.int .i64 0),(.str []),(.slice true [] []),(.slice true [] [])] [(0,9),(1,4),(2,9),(3,65),(4,57)]
 |75=> .im .i64
 |81=> .fu
 |83=> .sl 172 3 40
 |85=> .gr [(.str []),(.bool false),(.str []),(.slice true [] []),(.bool false),(.int .i64 0),(.str []),(.slice true [] []),(.slice true [] [])] [(0,9),(1,4),(2,9),(3,83),(4,58)]
 |89=> .sl 228 3 16
 |91=> .gr [(.int .i64 0),(.bool false),(.int .i64 0),(.slice true [] [])] [(0,3),(1,4),(2,3),(3,89)]
 |93=> .gr [(.int .u8 0),(.int .i64 0),(.int .i64 0),(.str []),(.slice true [] []),(.int .i64 0),(.bool false),(.int .i64 0),(.slice true [] []),(.bool false)] [(0,5),(1,75),(2,3),(3,9),(4,28),(5,91),(9,4)]
 |97=> .gr [(.str []),(.str []),(.slice true [] [])] [(0,9),(1,9),(2,61)]
 |103=> .gr [(.int .u8 0),(.str []),(.int .i64 0)] [(0,5),(1,9),(2,3)]
 |107=> .gr [(.int .u8 0),(.str []),(.str [])] [(0,5),(1,9),(2,9)]
 |109=> .gr [(.str []),(.slice true [] [])] [(0,9),(1,28)]
 |116=> .gr [(.int .i64 0),(.bool false)] [(0,3),(1,4)]
 |118=> .gr [(.str []),(.int .i64 0),(.bool false)] [(0,9),(1,116)]
 |122=> .gr [(.int .i64 0),(.bool false)] [(0,3),(1,4)]
 |124=> .gr [(.str []),(.int .i64 0),(.bool false)] [(0,9),(1,122)]
 |134=> .gr [(.str []),(.str []),(.slice true [] [])] [(0,9),(1,9),(2,45)]
 |137=> .im .u64
 |139=> .pt
 |141=> .gr [(.bool false),(.int .i64 0),(.str []),(.slice true [] []),(.slice true [] []),(.int .u8 0),(.str []),(.str []),(.str []),(.int .i64 0),(.int .i64 0),(.bool false),(.slice true [] []),(.str []),(.slice true [] []),(.str []),(.slice true [] []),(.slice true [] []),(.slice true [] []),(.slice true [] []),(.slice true [] []),(.str []),(.bool false),(.str []),(.slice true [] []),(.bool false),(.int .i64 0),(.str []),(.slice true [] []),(.slice true [] [])] [(0,57),(5,63),(16,32),(21,67)]
 |157=> .sl 164 3 16
 |159=> .gr [(.int .i64 0),(.bool false),(.int .i64 0),(.slice true [] [])] [(0,3),(1,4),(2,3),(3,157)]
 |164=> .gr [(.int .i64 0),(.bool false),(.bool false)] [(0,3),(1,4),(2,4)]
 |170=> .gr [(.int .u8 0),(.int .i64 0),(.int .i64 0),(.str []),(.slice true [] []),(.int .i64 0),(.bool false),(.int .i64 0),(.slice true [] []),(.bool false)] [(0,5),(1,3),(2,3),(3,9),(4,28),(5,159),(9,4)]
 |172=> .gr [(.int .u8 0),(.str []),(.str [])] [(0,5),(1,9),(2,9)]
 |186=> .sl 29 1 24
 |188=> .sl 30 1 24
 |191=> .gr [(.str []),(.int .u8 0)] [(0,9),(1,5)]
 |198=> .fu
 |209=> .gr [(.str []),(.int .u8 0)] [(0,9),(1,5)]
 |228=> .gr [(.int .i64 0),(.bool false),(.bool false)] [(0,3),(1,4),(2,4)]
 |248=> .gr [(.str []),(.str [])] [(0,9),(1,9)]
 |256=> .fu
 |264=> .sl 5 1 1
 |270=> .gr [(.int .u8 0),(.str []),(.int .i64 0)] [(0,5),(1,9),(2,3)]
 |290=> .gr [] []
 |297=> .fu
 |305=> .fu
 |306=> .sl 50 1 24
 |311=> .ar [(.slice true [] []),(.slice true [] [])] 2 61
 |320=> .pt
 |322=> .gr [.nilptr,(.slice true [] [])] [(0,320),(1,264)]
 |346=> .fu
 |351=> .ar [(.str []),(.str []),(.str []),(.str []),(.str []),(.str []),(.str []),(.str []),(.str []),(.str []),(.str []),(.str []),(.str []),(.str []),(.str []),(.str []),(.str []),(.str []),(.str []),(.str []),(.str []),(.str []),(.str []),(.str []),(.str []),(.str []),(.str []),(.str []),(.str []),(.str []),(.str []),(.str []),(.str []),(.str []),(.str []),(.str []),(.str []),(.str [])] 19 248
 |362=> .sl 270 3 32
 |380=> .fu
 |385=> .im .i64
 |392=> .im .u32
 |394=> .im .u64
 |395=> .sl 53 1 24
 |409=> .pt
 |411=> .gr [(.str []),(.int .i64 0),(.int .i64 0)] [(0,9),(1,3),(2,75)]
 |414=> .fu
 |438=> .fu
 |_=> .un
def Tz.z:Tz->List D
 | .bo=>[.bool false]
 | .st=>[.str []]
 | .pt=>[.nilptr]
 | .fu=>[.nilFunc]
 | .nf=>[.nilIface]
 | .mp=>[.nilMap]
 | .un=>[]
 | .im k=>[.int k 0]
 | .sl _ _ _=>[.slice true [] []]
 | .gr zs _=>zs
 | .ar zs _ _=>zs
def Tz.k:Tz->Option Nat
 | .gr zs _=>some zs.length
 | .ar zs _ _=>some zs.length
 |_=>none
def Tz.d(t:Tz):D:=match t with
 | .gr zs _=> .agg zs
 | .ar zs _ _=> .agg zs
 |t=>t.z.headD .junk
def Tz.n(t:Tz):Nat:=t.z.length
def tA:Operand->Ip
 | .tmp t=> .t t
 | .const v=> .c ((ofVal v).getD .junk)
 | .func f=> .c (.fn f [])
 | .global _=> .t 0
def lk{α:Type}(d:α)(k:Nat):List (Nat×α)->α
 |[]=>d
 |(j,x)::r=>if j=k then x else lk d k r
def fAt(t:Tz)(f:Nat):Nat×Nat:=match t with
 | .gr _ fs=>fs.getD f (0,0)
 |_=>(0,0)
def Uq:List (Nat×Nat)->List (Nat×Nat)
 |[]=>[]
 |(o,t)::r=>(match zT t with
  | .im _=>[(0,o)]
  | .bo=>[(1,o)]
  | .st=>[(2,o)]
  | .gr _ fs=>fs.map λp=>((match zT p.2 with| .im _=>0| .bo=>1|_=>2),o+p.1)
  |_=>[])++Uq r
def tE(ne:Bool)(t:Tz)(a b:Ip):DOp:=match t with
 | .bo=> .beq ne a b
 | .im _=> .bin (if ne=true then .neq else .eql) a b
 | .st=> .bin (if ne=true then .neq else .eql) a b
 | .gr _ fs=> .seq ne (Uq fs) a b
 | .sl _ _ _=> .nileq ne 0 a b
 | .pt=> .nileq ne 1 a b
 | .fu=> .nileq ne 3 a b
 | .nf=> .nileq ne 2 a b
 |_=> .stop
def tB(o:BinOp)(t:Tz)(a b:Ip):DOp:=match o with
 | .eql=>tE false t a b
 | .neq=>tE true t a b
 |o=> .bin o a b
def tC(s t:Tz)(x:Ip):DOp:=match s,t with
 | .im _,.im k=> .conv k x
 | .st,.st=> .s2s x
 | .st,.sl _ _ _=> .s2b x
 | .sl _ _ _,.st=> .b2s x
 |_,_=> .stop
def tX(t:Tz)(x i:Ip):DOp:=match t with
 | .sl _ s _=> .iaddr s x i
 | .ar _ n e=> .iadda n (zT e).n x i
 |_=> .stop
def tI(t:Tz)(x i:Ip):DOp:=match t with
 | .st=> .idxs x i
 | .ar _ n e=>(match (zT e).k with
  |none=> .idxa n x i
  |some s=> .idxm n s x i)
 |_=> .stop
def tS(t:Tz)(x:Ip)(l h:Option Ip):DOp:=match t with
 | .st=> .cuts x l h
 | .sl _ s _=> .cutl s x l h
 |_=> .stop
def tP(t:Tz)(l:List (Nat×Operand)):DOp:=match t with
 | .gr zs fs=> .build zs (l.map λp=>((fs.getD p.1 (0,0)).1,(zT (fs.getD p.1 (0,0)).2).n,tA p.2))
 | .ar zs _ e=> .build zs (l.map λp=>(p.1*(zT e).n,(zT e).n,tA p.2))
 |_=> .stop
def tG(t:Tz)(l:List (Nat×Operand)):DOp:=match t with
 | .sl e s _=> .bslice e s (l.map λp=>tA p.2)
 |_=> .stop
def tM(t:Tz)(n c:Ip):DOp:=match t with
 | .sl e s b=> .mksl e s b (zT e).d n c
 |_=> .stop
def tL(c:Callee)(xs:List Operand)(ts:List Nat):DOp:=match c with
 | .value f=> .call (tA f) (xs.map tA)
 | .builtin .len=>(match xs,ts with
  |[x],[t]=>(match zT t with| .st=> .len true (tA x)|_=> .len false (tA x))
  |_,_=> .stop)
 | .builtin .append=>(match xs,ts with
  |[x,y],[t,_]=>(match zT t with| .sl e s b=> .app e s b (tA x) (tA y)|_=> .stop)
  |_,_=> .stop)
 | .builtin .max=>(match xs with|[x,y]=> .mxm true (tA x) (tA y)|_=> .stop)
 | .builtin .min=>(match xs with|[x,y]=> .mxm false (tA x) (tA y)|_=> .stop)
 |_=> .stop
def tO:Op->DOp
 | .move x=> .mv (tA x)
 | .assign x=> .mv (tA x)
 | .pick c a b=> .pick (tA c) (tA a) (tA b)
 | .alloc t=> .alloc (zT t).z
 | .box _ x=> .box (tA x)
 | .build t l=>tP (zT t) l.toList
 | .buildSlice t _ l=>tG (zT t) l.toList
 | .load t x=> .load (zT t).k (tA x)
 | .store t x v=> .store (zT t).n (tA x) (tA v)
 | .nilCheck x=> .nilchk (tA x)
 | .binOp o t x y _=>tB o (zT t) (tA x) (tA y)
 | .unOp o _ x=> .un o (tA x)
 | .convert s t x=>tC (zT s) (zT t) (tA x)
 | .fieldAddr t x f=> .faddr (fAt (zT t) f).1 (tA x)
 | .field t x f=> .field (zT (fAt (zT t) f).2).k (fAt (zT t) f).1 (tA x)
 | .indexAddr t x i=>tX (zT t) (tA x) (tA i)
 | .index t x i=>tI (zT t) (tA x) (tA i)
 | .slice t x l h _=>tS (zT t) (tA x) (l.map tA) (h.map tA)
 | .makeInterface t x=> .mkif t (tA x)
 | .typeAssert x _ t ok=> .tass t ok (zT t).d (tA x)
 | .extract x i=> .ext i (tA x)
 | .makeSlice t n c=>tM (zT t) (tA n) (tA c)
 | .range _ x=> .range (tA x)
 | .next x _=> .next (tA x)
 | .makeFunc (.func f) _ l=> .mkfn f (l.toList.map tA)
 | .call c=>tL c.callee c.args.toList c.argTypes.toList
 |_=> .stop
def tR(o:Oper):DOper:=⟨o.dst,tO o.op,[],o.guard⟩
def xC:Code->Nat
 | .region i _ _=>i
 | .seq a _=>xC a
 | .block _ a=>xC a
 | .loop a=>xC a
 |_=>0
def dN(k:Nat):Code->Option Code
 | .seq a b=>(dN k a).or (dN k b)
 | .cond _ a b=>(dN k a).or (dN k b)
 | .block _ a=>dN k a
 | .loop a=>if xC a=k then some a else dN k a
 |_=>none
def tQ(ps:List (Nat×List (Nat×Nat)))(ls:List (Nat×DC)):Code->DC
 | .skip=> .skip
 | .ret=> .ret
 | .exit i=> .exit i
 | .region i ops false=> .row (ops.toList.map tR)
 | .region i ops true=> .drawn (ops.toList.map tR) (lk [] i ps)
 | .seq a b=> .seq (tQ ps ls a) (tQ ps ls b)
 | .cond c a b=> .cond (tA c) (tQ ps ls a) (tQ ps ls b)
 | .block i c=> .block i (tQ ps ls c)
 | .loop c=> .loop (lk .skip (xC c) ls)
 |_=> .skip
def tAi(k i):tA (.const (.int k i))= .c (.int k i):=rfl
def tAb(b):tA (.const (.bool b))= .c (.bool b):=rfl
def tAs(s):tA (.const (.string s))= .c (.str s.data.toList):=rfl
def tAl:tA (.const (.slice none 0 0))= .c (.slice true [] []):=rfl
def tAp:tA (.const (.pointer none))= .c .nilptr:=rfl
def tAn:tA (.const .nilIface)= .c .nilIface:=rfl
def tAu:tA (.const .nilFunc)= .c .nilFunc:=rfl
def tAg(l):tA (.const (.agg l))= .c ((ofVal (.agg l)).getD .junk):=rfl
def tAt(t):tA (.tmp t)= .t t:=rfl
def tAf(f):tA (.func f)= .c (.fn f []):=rfl
def bAt(f:Func):Code:=f.body.getD .skip
abbrev y0(f:Func)(ps:List (Nat×List (Nat×Nat)))(ls:List (Nat×DC)){c:DC}(_:tQ ps ls (bAt f)=c:=by exact Eq.trans (by conv=>lhs;whnf) (by simp only[tQ,tR,tO,tAt,tAi,tAb,tAs,tAf,tAl,tAp,tAn,tAu,tAg,zT,Tz.k,Tz.z,Tz.n,Tz.d,tL,tP,tB,tE,tX,tS,tI,tG,tC,tM,fAt,Uq,lk,ofVal,List.getD_cons_zero,List.getD_cons_succ,List.map_cons,List.map_nil,List.length_cons,List.length_nil,List.headD_cons,List.cons_append,List.nil_append,Option.map_some,Option.map_none,Option.getD_some,Bool.false_eq_true,reduceIte,Nat.reduceAdd,Nat.reduceMul,Nat.reduceEqDiff]<;>rfl)):DC:=c
abbrev y1(f:Func)(k:Nat)(ps:List (Nat×List (Nat×Nat)))(ls:List (Nat×DC)){c:DC}(_:tQ ps ls ((dN k (bAt f)).getD .skip)=c:=by exact Eq.trans (by conv=>lhs;whnf) (by simp only[tQ,tR,tO,tAt,tAi,tAb,tAs,tAf,tAl,tAp,tAn,tAu,tAg,zT,Tz.k,Tz.z,Tz.n,Tz.d,tL,tP,tB,tE,tX,tS,tI,tG,tC,tM,fAt,Uq,lk,ofVal,List.getD_cons_zero,List.getD_cons_succ,List.map_cons,List.map_nil,List.length_cons,List.length_nil,List.headD_cons,List.cons_append,List.nil_append,Option.map_some,Option.map_none,Option.getD_some,Bool.false_eq_true,reduceIte,Nat.reduceAdd,Nat.reduceMul,Nat.reduceEqDiff]<;>rfl)):DC:=c
end Go.Vd
namespace Go.Vd
open Go.RowKit
structure sJ (p:Id->Id):Prop where
 inv:∀i,p (p i)=i
 nil:p []=[]
def sJ.inj{p:Id->Id}(h:sJ p){i j:Id}(e:p i=p j):i=j:=by rw[←h.inv i,e,h.inv]
def sJ.nn{p:Id->Id}(h:sJ p){i:Id}(e:p i≠[]):i≠[]:=λhi=>e (by rw[hi,h.nil])
section
variable{P:Program}{S:Ic}{f:FuncId}{N:Nat}{dc:DC}{rs:List RV}
end
section
variable{P:Program}{f:FuncId}
def bY:List D->Option D
 |[]=>some (.bool true)
 |_=>none
end
def En(e:Nat):IS where
 rd:=λ_ _=>[]
 ex:=λds _ fr=>match ds with
  |[.slice true _ [],.int .i64 k]=>if 0<k∧k<=1000000 then some (.slice false (0::fr) [],[(0::fr,0,[.tok (e+1)])])else none
  |_=>none
def Oa {P:Program} {f:FuncId} {e sz:Nat} (ma:∃fn,P.funcs[f]?=some fn∧fn.body.isSome=true∧(fn.name== "runtime.NumGoroutine")=false) (pa:0<sz)
  (hi:∃ti z,P.info? e=some ti∧ti.size=sz∧ti.zero=some z∧z.cells.size=sz)
  (b:∀(w:World)(k:Nat),0<k->k<=1000000->Calls P f #[.slice none 0 0,.int .i64 (k:Int)] w λev w'=>∃c cs,c<=maxLen∧cs.size=c*sz∧ev= .returned (.slice (some ⟨w.heap.size,0,none⟩) 0 c)∧w'=w.drew.alloc (.cells cs e)):(En e).ok P f:=by
 refine⟨ma,λds m m' fr _=>rfl,?_⟩;intro B w0 w m g fr ds vs r u ia o q da y;simp only[En]at y;split at y
 ·rename_i t k;split at y
  ·rename_i x;obtain⟨oa,hk⟩:=x;simp only[Qo,Qy]at y;obtain⟨rfl,rfl⟩:=y
   match vs,q with
   |[v0,v1],_=>
    have ua:=da 0 _ v0 rfl rfl;have na:=(da 1 _ v1 rfl rfl).int_inv;subst na;have e0:v0= .slice none 0 0:=by
     rcases ua.slice_inv with ⟨_,_,e⟩|⟨h,_⟩
     ·exact e
     ·cases h
    subst e0;have ka:((k.toNat:Nat):Int)=k:=Int.toNat_of_nonneg O;have hw:=b w k.toNat O O;rw[ka]at hw;refine hw.mono ?_;rintro ev w' ⟨c,cs,ib,xa,rfl,rfl⟩;have s:=o (0::fr) (QS 0 fr);have a:=(ia.drew).newTok s (e:=e) (n:=0) (c:=c) (sz:=sz) (cur:=cs) pa hi (Qz _) ib xa;have ja:=(IF.drew w g).trans (IF.newTok (w:=w.drew) (t:=0::fr) (n:=0) (c:=c) (sz:=sz) (Obj.cells cs e) ia.drew.gz s.2.2 rfl);refine⟨_,_,rfl,a,ja,?_,λi hf hn=>DE hf (λh=>hn ((QS 0 fr).trans h)) _ _ _ _ _⟩;exact aH (sz:=sz) (xs:=[]) (vs:=[]) (cur:=cs) (T:=e) (fz:=(0,0)) (heap_alloc_new w.drew _) rfl (Qz _) (λd l=>by cases l) (A8.nil _ _) (λj v p=>by simp at p) U (λ_=>Xi) (λd l=>by cases l)
  ·cases y
 ·cases y
def Ga:List D->Option (List D)
 |[]=>some []
 | .slice _ _ xs::r=>(Ga r).map (xs++·)
 |_=>none
def VO:D->Bool
 | .str _=>true
 |_=>false
def pE:D->List UInt8
 | .str s=>s
 |_=>[]
def aGq{P:Program}{B:Nat}{w0 w o:World}{m:Ig}{g:Gh}{e n:Nat}{v:Value}{xs:List D}(hi:Iv P B w0 m w g)(i:Below w.heap.size w o)(p:xs.all VO=true)(hn:n=xs.length)
  (ho:o.ownsRow w.heap.size e 1 v n (xs.map λd=>Value.string ⟨(pE d).toArray⟩)) (t:v≠ .slice none 0 0):Im o (g.over w o) (.slice false [] xs) v:=by
 obtain⟨u,q⟩:=ho;rcases q with ⟨q,_⟩|⟨b,cap,cur,rfl,f,z,va,k,pa,na⟩
 ·exact absurd q t
 ·have c:∀d∈xs,d.cells.length=1∧d.calm=true:=by
   intro d l;have:=QA.1 p d l;unfold VO at this;split at this
   ·exact Qm
   ·cases this
  have qa:A8 o (g.over w o) (flat xs) (xs.map λd=>Value.string ⟨(pE d).toArray⟩):=by
   clear hn u na t;induction xs with
   |nil=>exact A8.nil _ _
   |cons x r ih=>
    simp only[ZS,QT]at p;have a:=ih p.2 (λd l=>c d (Q4 _ l))
    match x,p.1 with
    | .str s,_=>exact A8.append (A8.one (.str s) rfl) a
  refine aH (sz:=1) (vs:=xs.map λd=>Value.string ⟨(pE d).toArray⟩) z hn va (λd l=>(c d l).1) qa (λj v t=>?_) ?_ (λh=>absurd rfl h) (λd l=>(c d l).2)
  ·grind
  ·grind [Gh.over]
mutual
def D.off(i:Id):D->Bool
 | .ptr j _=>j !=i
 | .row j _=>j !=i
 | .agg cs=>aT i cs
 | .tup cs=>aT i cs
 | .fn _ cs=>aT i cs
 |_=>true
def aT(i:Id):List D->Bool
 |[]=>true
 |d::r=>D.off i d&&aT i r
end
def LD{i:Id}:∀{l:List D},aT i l=true↔∀d∈l,d.off i=true
 |[]=>by simp[aT]
 |d::r=>by simp only[aT,QT,LD,Zx,forall_eq_or_imp]
def VE{i:Id}{w:World}{g:Gh}{ds:List D}{vs:List Value}(z:vs.length=ds.length)(h:∀(j:Nat) d v,ds[j]?=some d->vs[j]?=some v->d.off i=true):aT i ds=true:=by
 rw[LD];intro d l;obtain⟨j,y,rfl⟩:=Q8 l;exact h j _ vs[j] (Qp y) (Qp O)
def Im.off{w:World}{g:Gh}{i:Id}(hi:g.dl i=none){d:D}{v:Value}(h:Im w g d v):d.off i=true:=by
 induction h with
 |ptr j o b u=>
  simp only[D.off,bne_iff_ne,ne_eq];rintro rfl;rw[hi]at u;cases u
 |row j n c b r u=>
  simp only[D.off,bne_iff_ne,ne_eq];rintro rfl;rw[hi]at u;cases u
 |agg ds vs u q y ih=>simp only[D.off];exact VE (w:=w) (g:=g) u ih
 |tup ds vs u q ih=>simp only[D.off];exact VE (w:=w) (g:=g) u ih
 |fn f ds vs u q ih=>simp only[D.off];exact VE (w:=w) (g:=g) u ih
 |_=>rfl
def Im.drop{w:World}{g g':Gh}{i:Id}(va:∀j b,j≠i->g.dl j=some b->g'.dl j=some b)(z:∀b,g.G b<=g'.G b)(ha:∀j x,g.tb j=some x->g'.tb j=some x){d:D}{v:Value}(h:Im w g d v)(ho:d.off i=true):Im w g' d v:=by
 have calm:∀{d:D} {v:Value},Im w g d v->d.calm=true->Im w g' d v:=λh hc=>h.calm_to hc (λ_ _=>rfl) z
 have cf:∀{xs:List D},(∀d∈xs,d.calm=true)->∀d∈flat xs,d.calm=true:=λh9 d l=>by
  have:=O2 h9 d l
  first|exact this|(cases d<;>simp_all [D.calm,D.calm1])
 induction h with
 |junk v=>exact .junk v
 |bool b=>exact .bool b
 |int k n=>exact .int k n
 |str s=>exact .str s
 |nils t=>exact .nils _
 |slice t xs a n c sz vv u q y e m h6 h7 h8 h9 ih=>
  refine .slice t xs a n c sz vv u q y e m (λj d l=>calm (h6 j d l) (cf h9 d (Qx l))) (λh=>Q_ (h7 h) (z _)) (λht=>?_) h9;obtain⟨q1,q2,q3⟩:=h8 ht;exact⟨q1,q2,ha _ _ q3⟩
 |ptr j o b u=>exact .ptr j o b (va j b (by simpa[D.off]using ho) u)
 |row j n c b r u=>exact .row j n c b r (va j b (by simpa[D.off]using ho) u)
 |eptr ds a vv u q y e m=>exact .eptr ds a vv u q (λj d l=>calm (y j d l) (m d (Qx l))) (λh=>Q_ (e h) (z _)) m
 |nilp=>exact .nilp
 |agg ds vs u q y ih=>
  simp only[D.off,LD]at ho;exact .agg _ vs u q (λj d v l p=>ih j d v l p (ho d (Qx l)))
 |tup ds vs u q ih=>
  simp only[D.off,LD]at ho;exact .tup _ vs u (λj d v l p=>ih j d v l p (ho d (Qx l)))
 |iface t d v u q ih=>exact .iface t d v u (calm q u)
 |nili=>exact .nili
 |fn f ds vs u q ih=>
  simp only[D.off,LD]at ho;exact .fn f _ vs u (λj d v l p=>ih j d v l p (ho d (Qx l)))
 |nilf=>exact .nilf
 |nilm=>exact .nilm
 |itp j b u=>exact .itp j b (ha _ _ u)
def aDV{i:Id}{d:D}(h:d.calm1=true):d.off i=true:=by
 cases d with
 |fn f cs=>
  have:cs=[]:=by simpa[D.calm1]using h
  subst this;rfl
 |_=>first|rfl|(simp[D.calm1]at h;done)
def oS:∀{u:Ir} {m:Ig} {i:Id} {o:Nat} {d:D},(∀p∈u,∀x∈p.2.2,x.calm1=true)->Ir.app m u i o=some d->d.calm1=true∨m i o=some d
 |[],m,i,o,d,_,h=> .inr h
 |(j,k,ds)::u,m,i,o,d,hu,h=>by
  rcases oS (u:=u) (λp g=>hu p (Q4 _ g)) h with h1|h1
  ·exact .inl h1
  ·by_cases v:i=j∧k<=o∧o<k+ds.length
   ·left;have:m.put j k ds i o=ds[o-k]?:=by unfold Ig.put;rw[if_pos v]
    rw[this]at h1;exact hu _ (Q0 ..) d (Qx h1)
   ·grind [Ig.put]
def oR:∀{u:Ir} {m:Ig} {i:Id} {o:Nat},(∀p∈u,p.1≠i)->Ir.app m u i o=m i o
 |[],m,i,o,_=>rfl
 |(j,k,ds)::u,m,i,o,hu=>by
  have q:=oR (u:=u) (m:=m.put j k ds) (i:=i) (o:=o) (λp g=>hu p (Q4 _ g));have f:i≠j:=λe=>hu _ (Q0 ..) e.symm
  exact q.trans (aA f)
def rI:∀{xs:List D},(∀x∈xs,x.cells=[x])->flat xs=xs
 |[],_=>rfl
 |x::r,h=>by
  rw[flat,h x (Q0 ..),rI λy d=>h y (Q4 _ d)];rfl
section
variable{P:Program}{B:Nat}{w0 w:World}{m:Ig}{g:Gh}{S:Ic}{f:FuncId}{N:Nat}{dc:DC}{rs:List RV}
def Gh.settle(g:Gh)(i:Id)(b n:Nat):Gh:={g with dl:=λj=>if j=i then none else g.dl j,G:=λz=>if z=b then n else g.G z}
theorem aGA (hS : Ic.ok P S) (hf : Fn P f N dc rs) {q : IS} (z : ∀ ds m m' fr, (∀ l ∈ q.rd ds m, m l.1 l.2 = m' l.1 l.2) → q.ex ds m fr = q.ex ds m' fr)
  (hq : ∀ ds m fr r u, q.ex ds m fr = some (r, u) → (∀ i o, fr <:+ i → m i o = none) → ds.length ≤ N ∧ (∀ p ∈ u, ¬ fr <:+ p.1 ∧ ∀ x ∈ p.2.2, x.calm1 = true) ∧ ∃ xs, r = .slice false [] xs ∧ (∀ x ∈ xs, x.calm = true ∧ x.cells = [x]) ∧
   dc.wp S fr (Ew rs fun d m' => ∃ i, d = .row i xs.length ∧ fr <:+ i ∧ (∀ (j : Nat) x, xs[j]? = some x → m' i j = some x) ∧ ∀ i o x, Ir.app m u i o = some x → m' i o = some x) ⟨BR ds, m, 0⟩) : q.ok P f := by
 obtain ⟨fn, ca, h1, h2, h3, h4, h5, h6⟩ := hf.is
 refine ⟨⟨fn, h1, by rw [h2]; rfl, h3⟩, z, ?_⟩
 intro B w0 w m g fr ds vs r u hi fa hl da ba
 have ea : ∀ k i, (k :: fr) <:+ i → Cp m g i := fun k i h => fa i ((QS k fr).trans h)
 obtain ⟨hN, hu, xs, rfl, ib, bb⟩ := hq ds m fr r u ba (fun i o h => (fa i h).1 o)
 have na := Hw (ns := fr) hS hf hN hi ea hl da bb
 refine na.mono ?_
 rintro e w' ⟨v, d, m', g', rfl, ia, ja, ka, ab, i, rfl, aa, ga, ta⟩
 obtain ⟨b, cap, rfl, ra, hb⟩ := ab.row_inv
 obtain ⟨kb, lb, cur, T, a, xa⟩ := ia.obj i b hb
 have va : g.dl i = none := (fa i aa).2.1
 have y : ∀ b', g'.G b' ≤ (g'.settle i b xs.length).G b' := by
  grind [Gh.settle]
 have jb : ∀ {d : D} {v : Value}, Im w' g' d v → d.off i = true → Im w' (g'.settle i b xs.length) d v := fun h ho =>
  h.drop (i := i) (fun j b' hj e => by simp only [Gh.settle]; rw [if_neg hj]; exact e) y (fun _ _ e => e) ho
 have base := ia.less ta
 have t : ∀ o, Ir.app m u i o = none := fun o => by
  rw [oR (fun p hp e => (hu p hp).1 (e ▸ aa))]; exact (fa i aa).1 o
 have gb : ∀ j o d, Ir.app m u j o = some d → d.off i = true := by
  intro j o d hd
  rcases oS (fun p hp => (hu p hp).2) hd with h | h
  ·exact aDV h
  ·cases hdl : g.dl j with
   | none =>
    have hk := hi.kind j o d h hdl
    cases d <;> first | rfl | cases hk
   | some b' =>
    obtain ⟨_, _, cb, _, _, hr⟩ := hi.obj j b' hdl
    obtain ⟨v', _, _, za⟩ := hr o d h
    exact za.off va
 have fb : Iv P B w0 (Ir.app m u) w' (g'.settle i b xs.length) := by
  refine ⟨ia.below, ia.size, fun b' sa => ?_, fun b' sa => ?_, fun j b' hj => ?_, fun j j' b' e1 e2 => ?_, fun j o d hm hn => ?_, fun j e hm => ?_, base.tinj, base.itr.to (fun _ _ _ e => e) fun j b1 s p _ _ _ e1 e2 e3 => ?_⟩
  rotate_right
  ·have pb : b1 ≠ b := fun e' => e3 i (e' ▸ hb)
   refine ⟨rfl, rfl, by simp only [Gh.settle]; rw [if_neg pb]; exact e2, fun i' h' => ?_⟩
   simp only [Gh.settle] at h'
   split at h'
   ·cases h'
   ·exact e3 i' h'
  ·simp only [Gh.settle]
   have : b < w'.heap.size := (QQ.1 a).1
   rw [if_neg O]; exact ia.gz b' sa
  ·simp only [Gh.settle]; rw [if_neg O]; exact ia.old b' sa
  ·simp only [Gh.settle] at hj
   split at hj
   ·cases hj
   ·rename_i ma
    obtain ⟨p, q, cb, T', hh, r⟩ := base.obj j b' hj
    have pb : b' ≠ b := fun e => ma (ia.inj j i b (e ▸ hj) hb)
    refine ⟨p, by simp only [Gh.settle]; rw [if_neg pb]; exact q, cb, T', hh, fun o d hm => ?_⟩
    obtain ⟨v', r1, r2, r3⟩ := r o d hm
    exact ⟨v', r1, r2, jb r3 (gb j o d hm)⟩
  ·simp only [Gh.settle] at e1 e2
   split at e1
   ·cases e1
   ·split at e2
    ·cases e2
    ·exact ia.inj j j' b' e1 e2
  ·by_cases eb : j = i
   ·subst eb; rw [t o] at hm; cases hm
   ·simp only [Gh.settle, if_neg eb] at hn
    exact base.kind j o d hm hn
  ·obtain ⟨b1, n, c, sz, la, t1, t2, t3, t4, t5, t6, t7, t8, t9, ya⟩ := base.tok j e hm
   have pb : b1 ≠ b := fun e' => ya i (e' ▸ hb)
   refine ⟨b1, n, c, sz, la, t1, t2, t3, t4, t5, t6, t7, t8, by simp only [Gh.settle]; rw [if_neg pb]; exact t9, fun i' h' => ?_⟩
   simp only [Gh.settle] at h'
   split at h'
   ·cases h'
   ·exact ya i' h'
 have db : ∀ (j : Nat), j < xs.length → ∃ v, cur[j]? = some v ∧ v.oneCell' = true ∧ ∃ x, xs[j]? = some x ∧ Im w' g' x v := by
  intro j hj
  obtain ⟨v', r1, r2, r3⟩ := xa j xs[j] (ga j _ (Qp hj))
  exact ⟨v', r1, r2, _, Qp hj, r3⟩
 have pa : xs.length ≤ cur.size := by
  rcases Nat.eq_zero_or_pos xs.length with h | h
  ·omega
  ·obtain ⟨v', r1, _⟩ := db (xs.length - 1) O
   have := (QQ.1 r1).1
   omega
 have ha : ∀ x ∈ xs, x.calm = true := fun x hx => (ib x hx).1
 have wa : flat xs = xs := rI fun x hx => (ib x hx).2
 have qa : A8 w' (g'.settle i b xs.length) (flat xs) (cur.toList.take xs.length) := by
  rw [wa]
  refine ⟨by simp; omega, fun v hv => ?_, fun j x v hx hv => ?_⟩
  ·obtain ⟨j, hj, rfl⟩ := Q8 hv
   have ua : j < xs.length := Zr hj (Zp _ _)
   obtain ⟨v', r1, r2, _⟩ := db j ua
   have : (cur.toList.take xs.length)[j]? = some v' := by rw [QN ua]; simpa using r1
   rw [Qp hj] at this
   rw [QP this]; exact r2
  ·have ua : j < xs.length := (QI.1 hx).1
   obtain ⟨v', r1, r2, x', oa, r3⟩ := db j ua
   rw [hx] at oa; obtain rfl := QP oa
   have : (cur.toList.take xs.length)[j]? = some v' := by rw [QN ua]; simpa using r1
   rw [hv] at this; obtain rfl := QP this
   exact r3.calm_to (ha x (Qx hx)) (fun _ _ => rfl) y
 refine ⟨_, g'.settle i b xs.length, rfl, fb, ⟨ja.cell, fun b' => Q_ (ja.G b') (y b'), fun j b' hj => ?_, ja.G0, ja.tb⟩, ?_, fun j hf hn => ?_⟩
 ·simp only [Gh.settle]
  rw [if_neg (fun e => by rw [e, va] at hj; cases hj)]; exact ja.dl j b' hj
 ·refine aH (sz := 1) (cur := cur) (vs := cur.toList.take xs.length) a rfl ra (fun d hd => by rw [(ib d hd).2]; rfl) qa (fun j v hv => ?_) (by simp [Gh.settle]) (fun h => absurd rfl h) ha
  have hj : j < xs.length := Zr (QI.1 hv).1 (Zp _ _)
  rw [QN hj] at hv
  simpa using hv
 ·obtain ⟨k1, k2, k3⟩ := ka j hf hn
  refine ⟨fun o => ?_, ?_, k3⟩
  ·cases hx : Ir.app m u j o with
   | none => rfl
   | some x => exact absurd (k1 o) (by rw [ta j o x hx]; simp)
  ·simp only [Gh.settle]
   split
   ·rfl
   ·exact k2
end
end Go.Vd
namespace Go.Vd
open Go.Proofs Go.RowKit
def aL8:=y0 f409 [] []
def P_:=y1 f395 5 [] []
def aMd:=y0 f395 [] [(5,P_)]
def P0:=y1 f360 3 [] []
def aMn:=y0 f360 [] [(3,P0)]
def aMV:=y0 f300 [] []
def aN8:=y0 f201 [] []
def aMl:=y0 f367 [] []
def aMb:=y0 f398 [] []
def aMc:=y0 f397 [] []
def aMm:=y0 f366 [] []
def P8:=y1 f313 5 [] []
def aMQ:=y0 f313 [] [(5,P8)]
def Oi:=y1 f312 4 [] []
def aMR:=y0 f312 [] [(4,Oi)]
def Rt:=y1 f211 6 [] []
def aN0:=y0 f211 [] [(6,Rt)]
abbrev Kq(F:List D->Option D)(n:Nat):=(Af F).ok Qs n
def AI{P:Program}:Ic.ok P (λ_=>none):=λf q h=>Xd
def D4(c:Int):Bool:=decide (97<=c∧c<=122)||decide (65<=c∧c<=90)||decide (48<=c∧c<=57)||decide (c=45)||decide (c=46)||decide (c=95)||decide (192<=c∧c<=55295)
def aE5:List D->Option D
 |[.int .i32 c]=>some (.bool (D4 c))
 |_=>none
def aUk:Kq aE5 409:=by
 refine AD (S:=λ_=>none) AI (Ai func409:Fn Qs 409 35 aL8 [.t 2]) (λds r h=>?_) (λds r h=>?_)
 ·unfold aE5 at h;split at h
  ·simp
  ·cases h
 ·unfold aE5 at h;split at h
  ·rename_i c;simp only[Qo]at h;subst h;unfold aL8;simp only[↓C2,Ih,simprocAttr]
   repeat' (first|(refine aD (λh=>?_) (λh=>?_)<;>try (exfalso;omega))|(simp only[↓C2,Ij,simprocAttr, *]))
   all_goals (rw[D.bool.injEq,Q1];simp[D4];try omega)
  ·cases h
def aE9:List D->Option D
 |[.int .i64 c]=>some (.bool (D4 c))
 |_=>none
def aUo:Kq aE9 367:=by
 refine AD (S:=λ_=>none) AI (Ai func367:Fn Qs 367 45 aMl [.t 2]) (λds r h=>?_) (λds r h=>?_)
 ·unfold aE9 at h;split at h
  ·simp
  ·cases h
 ·unfold aE9 at h;split at h
  ·rename_i c;simp only[Qo]at h;subst h;unfold aMl;simp only[↓C2,Ih,simprocAttr]
   repeat' (first|(refine aD (λh=>?_) (λh=>?_)<;>try (exfalso;omega))|(simp only[↓C2,Ij,simprocAttr, *]))
   all_goals (rw[D.bool.injEq,Q1];simp[D4];try omega)
  ·cases h
theorem Iz{x:Int}(u:-9223372036854775808<=x)(q:x<9223372036854775808):IntKind.i64.wrap x=x:=IntWalk.i64_in _ ⟨u,O⟩
def wJ{j:Nat}(h:j<4611686018427387904):IntKind.i64.wrap ((j:Int)+1)=((j+1:Nat):Int):=Iz O O
def nJ{j:Nat}:(0:Int)<=(j:Int):=O
abbrev Bs:=List UInt8
def at'(s:Bs)(i:Nat):Nat:=(s.getD i 0).toNat
theorem L4(s:Bs)(i:Nat):at' s i<256:=UInt8.toNat_lt _
def RS{s:Bs}{i:Nat}(h:i<s.length):∃c,s[i]?=some c∧at' s i=c.toNat:=⟨s[i],Qp h,by simp[at',h]⟩
def C7(s:Bs)(i:Nat):Bool:=decide (i<s.length)&&decide (128<=at' s i)&&decide (at' s i<192)
def aE7:List D->Option D
 |[.str s,.int .i64 i]=>if 0<=i then some (.bool (C7 s i.toNat))else none
 |_=>none
def aUm:Kq aE7 397:=by
 refine AD (S:=λ_=>none) AI (Ai func397:Fn Qs 397 21 aMc [.t 4]) (λds r h=>?_) (λds r h=>?_)
 ·unfold aE7 at h;split at h
  ·simp
  ·cases h
 ·unfold aE7 at h;split at h
  ·rename_i s i;split at h
   ·rename_i m;simp only[Qo]at h;subst h;obtain⟨i,rfl⟩:=QD m;unfold aMc;by_cases hi:i<s.length
    ·obtain⟨c,k,y⟩:=RS hi;have f:((i:Int)<s.length):=by omega
     simp only[↓C2,Ih,Ii,simprocAttr,f,m,Qq,k]
     repeat' (first|(refine aD (λh=>?_) (λh=>?_)<;>try (exfalso;omega))|(simp only[↓C2,Ij,simprocAttr, *,Qq]))
     all_goals (rw[D.bool.injEq,Q1];simp[C7,hi,y];try omega)
    ·have f:¬((i:Int)<s.length):=by omega
     simp only[↓C2,Ij,simprocAttr,f,Qq];simp[C7,hi]
   ·cases h
  ·cases h
def aE6:List D->Option D
 |[.str s,.int .i64 i]=>if 0<=i∧i<s.length then some (.int .i64 ((at' s i.toNat:Int)-128))else none
 |_=>none
def aUl:Kq aE6 398:=by
 refine AD (S:=λ_=>none) AI (Ai func398:Fn Qs 398 10 aMb [.t 4]) (λds r h=>?_) (λds r h=>?_)
 ·unfold aE6 at h;split at h
  ·simp
  ·cases h
 ·unfold aE6 at h;split at h
  ·rename_i s i;split at h
   ·rename_i m;simp only[Qo]at h;subst h;obtain⟨m,hi⟩:=m;obtain⟨i,rfl⟩:=QD m;unfold aMb;obtain⟨c,k,y⟩:=RS (s:=s) (i:=i) O;have:=L4 s i;have v:IntKind.i64.wrap ((at' s i:Nat):Int)=at' s i:=Iz O O;have z:IntKind.i64.wrap ((at' s i:Int)-128)=(at' s i:Int)-128:=Iz O O;simp only[↓C2,Ij,simprocAttr,m,Qq,k,←y,v,z]
   ·cases h
  ·cases h
def AB:List (FuncId×IS)->Ic
 |[],_=>none
 |(k,q)::r,f=>if f=k then some q else AB r f
def A7{P:Program}{l:List (FuncId×IS)}(h:Ic.ok P (AB l)):∃S:Ic,Ic.ok P S∧∀f q,AB l f=some q->S f=some q:=⟨_,h,λ_ _ e=>e⟩
def Ad{P:Program}:Ic.ok P (AB []):=λf q h=>Xd
def Aa{P:Program}{k:FuncId}{q:IS}{r:List (FuncId×IS)}(h:q.ok P k)(y:Ic.ok P (AB r)):Ic.ok P (AB ((k,q)::r)):=λf d e=>by
 simp only[AB]at e;split at e
 ·simp_all
 ·exact y f d e
def Dq(s:Bs)(i:Nat):Int×Nat:=
 let b:=at' s i
 if b<128 then(b,1)
 else if 192<=b∧b<224∧C7 s (i+1)=true∧128<=64*((b:Int)-192)+(at' s (i+1)-128)then(64*((b:Int)-192)+(at' s (i+1)-128),2)
 else if 224<=b∧b<240∧C7 s (i+1)=true∧C7 s (i+2)=true∧2048<=4096*((b:Int)-224)+64*(at' s (i+1)-128)+(at' s (i+2)-128)∧
   (4096*((b:Int)-224)+64*(at' s (i+1)-128)+(at' s (i+2)-128)<55296∨57343<4096*((b:Int)-224)+64*(at' s (i+1)-128)+(at' s (i+2)-128))then
  (4096*((b:Int)-224)+64*(at' s (i+1)-128)+(at' s (i+2)-128),3)
 else if 240<=b∧b<248∧C7 s (i+1)=true∧C7 s (i+2)=true∧C7 s (i+3)=true∧65536<=262144*((b:Int)-240)+4096*(at' s (i+1)-128)+64*(at' s (i+2)-128)+(at' s (i+3)-128)∧
   262144*((b:Int)-240)+4096*(at' s (i+1)-128)+64*(at' s (i+2)-128)+(at' s (i+3)-128)<=1114111 then
  (262144*((b:Int)-240)+4096*(at' s (i+1)-128)+64*(at' s (i+2)-128)+(at' s (i+3)-128),4)
 else(-1,1)
theorem D8{s:Bs}{i:Nat}:C7 s i=true↔i<s.length∧128<=at' s i∧at' s i<192:=by simp[C7,and_assoc]
def aAb:List D->Option D
 |[.str s,.int .i64 i]=>if 0<=i∧i<s.length∧s.length<=1000000 then some (.tup [.int .i64 (Dq s i.toNat).1,.int .i64 ((Dq s i.toNat).2:Nat)])else none
 |_=>none
def aUp:Kq aAb 366:=by
 obtain⟨S,q,w⟩:=A7 (Aa aUm (Aa aUl Ad));have d:=w 397 _ rfl;have b:=w 398 _ rfl;clear w;refine AD (S:=S) q (Ai func366:Fn Qs 366 134 aMm [.t 4,.t 5]) (λds r h=>?_) (λds r h=>?_)
 ·unfold aAb at h;split at h
  ·simp
  ·cases h
 ·unfold aAb at h;split at h
  ·rename_i s i;split at h
   ·rename_i m;simp only[Qo]at h;subst h;obtain⟨m,hi,w⟩:=m;obtain⟨i,rfl⟩:=QD m;obtain⟨c,x,y⟩:=RS (s:=s) (i:=i) O;have b0:=L4 s i;have l:=L4 s (i+1);have b2:=L4 s (i+2);have b3:=L4 s (i+3);have z:∀k:Nat,aE7 [.str s,.int .i64 ((i:Int)+(k:Int))]=some (.bool (C7 s (i+k))):=by
     grind [aE7]
    have f:=z 1;have j:=z 2;have e:=z 3;have p:∀k:Nat,i+k<s.length->aE6 [.str s,.int .i64 ((i:Int)+(k:Int))]=some (.int .i64 ((at' s (i+k):Int)-128)):=by
     grind [aE6]
    have u:=p 1;have g:=p 2;have v:=p 3;have t1:=@D8 s (i+1);have t2:=@D8 s (i+2);have t3:=@D8 s (i+3);have w1:IntKind.i64.wrap ((i:Int)+1)=(i:Int)+1:=Iz O O;have o:IntKind.i64.wrap ((i:Int)+2)=(i:Int)+2:=Iz O O;have n:IntKind.i64.wrap ((i:Int)+3)=(i:Int)+3:=Iz O O;have w0:IntKind.i64.wrap ((c.toNat:Nat):Int)=at' s i:=by rw[←y];exact Iz O O
    clear z p;generalize e1:C7 s (i+1)=u1 at *;generalize e2:C7 s (i+2)=u2 at *;generalize e3:C7 s (i+3)=u3 at *;simp only[Zc]at f j e u g v;have a:Dq s ((i:Int)).toNat=Dq s i:=rfl;rw[a];unfold Dq;rw[e1,e2,e3];generalize at' s i=x0 at *;generalize at' s (i+1)=x1 at *;generalize at' s (i+2)=x2 at *;generalize at' s (i+3)=x3 at *;unfold aMm;simp only[↓C2,Ih,simprocAttr,m,Qq,x,w0];have g1:=λh=>u (t1.mp h).1
    have g2:=λh=>g (t2.mp h).1
    have g3:=λh=>v (t3.mp h).1
    clear t1 t2 t3 u g v a e1 e2 e3
    repeat' (first|(refine aD (λh=>?_) (λh=>?_)<;>try (exfalso;omega))|(simp (disch:=first|assumption|omega)only[↓C2,Ij,simprocAttr,f,j,e,g1,g2,g3,w1,o,n,h,Ab d,Ab b,Iz]))
    all_goals
     clear g1 g2 g3 f j e w0 w1 o n d b q;simp only[D.tup.injEq,QG,D.int.injEq,true_and,and_true]
     (repeat' split)<;>first|(constructor<;>rfl)|(exfalso;simp_all;omega)|(exfalso;simp_all;done)|(exfalso;omega)
   ·cases h
  ·cases h
def VS(s:Bs)(i:Nat):((ByteArray.mk s.toArray).get! i).toNat=at' s i:=by
 have:(ByteArray.mk s.toArray).get! i=s.toArray[i]!:=rfl;rw[this];unfold at';by_cases h:i<s.length
 ·simp[h]
 ·simp[h];rfl
def aF3(s:Bs):(ByteArray.mk s.toArray).size=s.length:=X6
def aDm(s:Bs)(i:Nat)(hi:i<s.length):(Utf8.decode ⟨s.toArray⟩ i).2=(Dq s i).2∧D4 ((Utf8.decode ⟨s.toArray⟩ i).1:Nat)=D4 (Dq s i).1:=by
 have b:=L4 s i;have o:=L4 s (i+1);have m:=L4 s (i+2);have x:=L4 s (i+3);have t1:(decide (i+1<s.length)&&(at' s (i+1) / 64==2))=C7 s (i+1):=by
  grind [C7]
 have k:(decide (i+2<s.length)&&(at' s (i+2) / 64==2))=C7 s (i+2):=by
  grind [C7]
 have d:(decide (i+3<s.length)&&(at' s (i+3) / 64==2))=C7 s (i+3):=by
  grind [C7]
 have j:=@D8 s (i+1);have c2:=@D8 s (i+2);have p:=@D8 s (i+3);unfold Utf8.decode Dq;simp only[VS,aF3,Zz,t1,k,d];generalize C7 s (i+1)=u1 at *;generalize C7 s (i+2)=u2 at *;generalize C7 s (i+3)=u3 at *;generalize at' s i=a at *;generalize at' s (i+1)=u at *;generalize at' s (i+2)=r at *;generalize at' s (i+3)=w at *;clear t1 k d;have y:D4 ((Utf8.runeError:Nat):Int)=D4 (-1):=Z
 have v:∀c:Nat,Utf8.valid (c:Int)=true↔(c<55296∨(57344<=c∧c<=1114111)):=by
  intro c;simp[Utf8.valid];omega
 have g:(a / 32==6)=decide (192<=a∧a<224):=YK
 have f:(a / 16==14)=decide (224<=a∧a<240):=YK
 have h:(a / 8==30)=decide (240<=a∧a<248):=YK
 simp only[g,f,h,QT,decide_eq_true_eq,v,ge_iff_le];clear g f h v;cases u1<;>cases u2<;>cases u3<;>simp only[QZ,and_false,false_and,if_false,and_true,true_and,false_iff,true_iff]at j c2 p ⊢
 all_goals (repeat' split)<;>first|exact⟨rfl,y⟩|exact⟨rfl,rfl⟩|(exfalso;omega)|(refine⟨rfl,?_⟩;congr 1;omega)
def qH(s:Bs)(i:Nat)(hi:i<s.length):1<=(Dq s i).2∧i+(Dq s i).2<=s.length:=by
 grind [Dq,D8]
def D_(s:Bs):Nat->Nat->Nat->Int
 |0,_,n=>if 12<n then 5 else 0
 |f+1,p,n=>if p<s.length then(if D4 (Dq s p).1=true then D_ s f (p+(Dq s p).2) (n+1)else 4)else if 12<n then 5 else 0
def Fp(s:Bs):Int:=if s=[]∨s=[46]∨s=[46,46]∨s=[45]then 4 else D_ s s.length 0 0
def aFe:List D->Option D
 |[.str s]=>if s.length<=1000000 then some (.int .i64 (Fp s))else none
 |_=>none
def aGS{S:Ic}{ns:Id}{s:Bs}{e:Int}{Q:Ex->St->Prop}(i:s.length<=1000000)(a:S 366=some (Af aAb))(b:S 367=some (Af aE9))
  (h:∀z,e=4->z.s 2= .int .i64 4->Q .ret z) (u:∀z (n:Nat),(if 12<n then(5:Int)else 0)=e->z.s 3= .int .i64 (n:Int)->Q (.exit 0) z):
  ∀(f p n:Nat) z g,s.length<=p+f->p<=s.length->n<=p->D_ s f p n=e->z.s 0= .str s->z.s 3= .int .i64 (n:Int)->z.s 4= .int .i64 (p:Int)->A2 S ns P8 Q z g:=by
 intro f;induction f with
 |zero=>
  intro p n z g hf k hn x m o h4;refine Ae P8.eq_1 ?_;have:¬((p:Int)<s.length):=O
  simp only[↓C2,Ih,Ii,simprocAttr,h4,m,this];exact u _ n x XG
 |succ f ih=>
  intro p n z g hf k hn x m o h4;refine Ae P8.eq_1 ?_;unfold D_ at x;by_cases v:p<s.length
  ·rw[if_pos v]at x;have c:((p:Int)<s.length):=by omega
   obtain⟨n1,n2⟩:=qH s p v;have hF:aAb [.str s,.int .i64 (p:Int)]=some (.tup [.int .i64 (Dq s p).1,.int .i64 ((Dq s p).2:Nat)]):=by
    grind [aAb]
   have y:aE9 [.int .i64 (Dq s p).1]=some (.bool (D4 (Dq s p).1)):=rfl;generalize Dq s p=r at *;have l:IntKind.i64.wrap ((n:Int)+1)=((n+1:Nat):Int):=Iz O O;have w2:IntKind.i64.wrap ((p:Int)+(r.2:Nat))=((p+r.2:Nat):Int):=Iz O O;cases ho:D4 r.1 with
   |true=>
    rw[if_pos ho]at x;simp only[↓C2,Ij,simprocAttr,h4,m,o,c,Ab a,Ab b,hF,y,ho,l,w2];exact ih _ _ _ _ O O O x m rfl rfl
   |false=>
    rw[if_neg (by rw[ho];simp)]at x;simp only[↓C2,Ij,simprocAttr,h4,m,c,Ab a,Ab b,hF,y,ho];exact h _ x.symm rfl
  ·rw[if_neg v]at x;have c:¬((p:Int)<s.length):=by omega
   simp only[↓C2,Ih,Ii,simprocAttr,h4,m,c];exact u _ n x XG
def aUD:Kq aFe 313:=by
 obtain⟨S,v,w⟩:=A7 (Aa aUp (Aa aUo Ad));have a:=w 366 _ rfl;have b:=w 367 _ rfl;clear w;refine AD (S:=S) v (Ai func313:Fn Qs 313 41 aMQ [.t 2]) (λds r h=>?_) (λds r h=>?_)
 ·unfold aFe at h;split at h
  ·simp
  ·cases h
 ·unfold aFe at h;split at h
  ·rename_i s;split at h
   ·rename_i i;simp only[Qo]at h;subst h;unfold aMQ Fp;by_cases j:s=[]∨s=[46]∨s=[46,46]∨s=[45]
    ·rw[if_pos j];rcases j with rfl|rfl|rfl|rfl<;>simp only[↓C2,Ij,simprocAttr,QG,show((45:UInt8)=46)=False by decide,and_false,and_self]
    ·rw[if_neg j];obtain⟨k,x,p,l⟩:s≠[]∧s≠[46]∧s≠[46,46]∧s≠[45]:=by simp only[not_or]at j;exact j
     have f:(s=[])=False:=eq_false k;have d:(s=[46])=False:=eq_false x;have c:(s=[46,46])=False:=eq_false p;have g:(s=[45])=False:=eq_false l;simp only[↓C2,Ih,Ii,simprocAttr,f,d,c,g];refine aGS (e:=D_ s s.length 0 0) i a b (λz u q=>?_) (λz n u q=>?_) s.length 0 0 _ _ O O O rfl rfl rfl rfl
     ·simp only[↓C2,Ij,q,u]
     ·rw[←u];have y:((12:Int)<(n:Int))=(12<n):=by simp only[eq_iff_iff];omega
      simp only[↓C2,Ih,simprocAttr,q,y];refine aD (λh=>?_) (λh=>?_)<;>simp only[↓C2,Ij,simprocAttr,h]
   ·cases h
  ·cases h
def aE8:List D->Option D
 |[.str s]=>if s.length<=1000000 then some (.int .i64 (Fp s))else none
 |_=>none
def aGM{S:Ic}{ns i:Id}{s:Bs}{e:Int}{Q:Ex->St->Prop}(j:s.length<=1000000)(a:S 409=some (Af aE5))
  (h:∀z,e=4->z.s 2= .int .i64 4->Q .ret z) (u:∀z (n:Nat),(if 12<n then(5:Int)else 0)=e->z.s 3= .int .i64 (n:Int)->Q (.exit 0) z):
  ∀(f p n:Nat) z g,s.length<=p+f->p<=s.length->n<=p->D_ s f p n=e->z.s 21= .itp i->z.m i 1=some (.it s p)->z.s 3= .int .i64 (n:Int)->A2 S ns P_ Q z g:=by
 intro f;induction f with
 |zero=>
  intro p n z g hf k hn x r c o;refine Ae P_.eq_1 ?_;have:¬(p<s.length):=O
  simp only[↓C2,Ih,Ii,simprocAttr,c,r,this];exact u _ n x XG
 |succ f ih=>
  intro p n z g hf k hn x r c o;refine Ae P_.eq_1 ?_;unfold D_ at x;by_cases v:p<s.length
  ·rw[if_pos v]at x;obtain⟨n1,n2⟩:=qH s p v;obtain⟨d1,d2⟩:=aDm s p v;rw[←d1]at x n1 n2;rw[←d2]at x;have y:aE5 [.int .i32 ((Utf8.decode ⟨s.toArray⟩ p).1:Nat)]=some (.bool (D4 ((Utf8.decode ⟨s.toArray⟩ p).1:Nat))):=rfl;have l:IntKind.i64.wrap ((n:Int)+1)=((n+1:Nat):Int):=Iz O O;cases ho:D4 ((Utf8.decode ⟨s.toArray⟩ p).1:Nat)with
   |true=>
    rw[if_pos ho]at x;simp only[↓C2,Ij,simprocAttr,c,r,o,v,Ab a,y,ho,l];exact ih _ _ _ _ O O O x r Yr rfl
   |false=>
    rw[if_neg (by rw[ho];simp)]at x;simp only[↓C2,Ij,simprocAttr,c,r,v,Ab a,y,ho];exact h _ x.symm rfl
  ·rw[if_neg v]at x;simp only[↓C2,Ih,Ii,simprocAttr,c,r,v];exact u _ n x XG
def aUn:Kq aE8 395:=by
 obtain⟨S,v,w⟩:=A7 (Aa aUk Ad);have a:=w 409 _ rfl;clear w;refine AD (S:=S) v (Ai func395:Fn Qs 395 32 aMd [.t 2]) (λds r h=>?_) (λds r h=>?_)
 ·unfold aE8 at h;split at h
  ·simp
  ·cases h
 ·unfold aE8 at h;split at h
  ·rename_i s;split at h
   ·rename_i i;simp only[Qo]at h;subst h;unfold aMd Fp;by_cases j:s=[]∨s=[46]∨s=[46,46]∨s=[45]
    ·rw[if_pos j];rcases j with rfl|rfl|rfl|rfl<;>simp only[↓C2,Ij,simprocAttr,QG,show((45:UInt8)=46)=False by decide,and_false,and_self]
    ·rw[if_neg j];obtain⟨k,x,p,l⟩:s≠[]∧s≠[46]∧s≠[46,46]∧s≠[45]:=by simp only[not_or]at j;exact j
     have f:(s=[])=False:=eq_false k;have d:(s=[46])=False:=eq_false x;have c:(s=[46,46])=False:=eq_false p;have g:(s=[45])=False:=eq_false l;simp only[↓C2,Ih,Ii,simprocAttr,f,d,c,g];refine aGM (e:=D_ s s.length 0 0) i a (λz u q=>?_) (λz n u q=>?_) s.length 0 0 _ _ O O O rfl rfl Yr rfl
     ·simp only[↓C2,Ij,q,u]
     ·rw[←u];have y:((12:Int)<(n:Int))=(12<n):=by simp only[eq_iff_iff];omega
      simp only[↓C2,Ih,simprocAttr,q,y];refine aD (λh=>?_) (λh=>?_)<;>simp only[↓C2,Ij,simprocAttr,h]
   ·cases h
  ·cases h
end Go.Vd
namespace Go.Vd
open Go.RowKit
def splitC(q:UInt8):Bs->List Bs
 |[]=>[[]]
 |c::r=>if c=q then []::splitC q r else match splitC q r with
  |h::t=>(c::h)::t
  |[]=>[[c]]
theorem uT{q:UInt8}:∀s,splitC q s≠[]
 |[]=>by simp[splitC]
 |c::r=>by
  unfold splitC;split
  ·simp
  ·split<;>simp
theorem split_word{q:UInt8}{w:Bs}(h:q∉w):∀s,splitC q (w++q::s)=w::splitC q s:=by
 induction w with
 |nil=>intro s;simp[splitC]
 |cons c r ih=>
  intro s;simp only[Zx,not_or]at h;simp only[Q5,splitC];rw[if_neg (λe=>h.1 e.symm),ih h.2]
def split_one{q:UInt8}{w:Bs}(h:q∉w):splitC q w=[w]:=by
 induction w with
 |nil=>rfl
 |cons c r ih=>
  simp only[Zx,not_or]at h;simp only[splitC];rw[if_neg (λe=>h.1 e.symm),ih h.2]
def Gw(m:Ig)(c e:Nat)(nl:Bool)(t:Id):Prop:=nl=true∨∃j,t=[j]∧j<c∧m t 0=some (.tok (e+1))
def Gw.grow{m:Ig}{c e c' x:Nat}{nl:Bool}{t:Id}{xs:List D}(h:Gw m c e nl t)(k:c<=c'):L8 (m.put [c'] 0 [.tok x]) e (.slice nl t xs):=by
 rcases h with h|⟨j,rfl,u,q⟩
 ·exact .inl h
 ·refine .inr ⟨?_,U⟩;rw[aA Xc];exact q
theorem Gw.new{m:Ig}{c e c':Nat}{nl:Bool}{t:Id}{xs:List D}(k:c'<c):Gw (Ir.app m (Bm e [c'] (.slice nl t xs))) c e false [c']:=by
 refine .inr ⟨c',rfl,k,?_⟩;cases nl<;>simp[Bm,Ir.app,BK]
def Gw.more{m:Ig}{c c' e:Nat}{nl:Bool}{t:Id}(h:Gw m c e nl t)(k:c<=c'):Gw m c' e nl t:=by
 rcases h with h|⟨j,u,q,o⟩
 ·exact .inl h
 ·exact .inr ⟨j,u,O,o⟩
def Gw.put{m:Ig}{c e c' o:Nat}{nl:Bool}{t:Id}{ds:List D}(h:Gw m c e nl t)(k:c<=c':=by omega):Gw (m.put [c'] o ds) c e nl t:=by
 rcases h with h|⟨j,rfl,u,q⟩
 ·exact .inl h
 ·refine .inr ⟨j,rfl,u,?_⟩;rw[aA Xc];exact q
def Gw.toGrow{m:Ig}{c e:Nat}{nl:Bool}{t:Id}{xs:List D}(h:Gw m c e nl t):L8 m e (.slice nl t xs):=by
 rcases h with h|⟨j,rfl,u,q⟩
 ·exact .inl h
 ·exact .inr ⟨q,U⟩
def HM:List D->Option (List Bs)
 |[]=>some []
 | .str s::r=>(HM r).map (s::·)
 |_=>none
def Gp:∀{xs:List D} {l:List Bs},HM xs=some l->xs=l.map .str
 |[],l,h=>by simp only[HM,Qo]at h;subst h;rfl
 |x::r,l,h=>by
  unfold HM at h;split at h
  ·rename_i m;cases m
  ·rename_i s w m;simp only[QG]at m;obtain⟨rfl,rfl⟩:=m;rw[Qr]at h;obtain⟨t,u,rfl⟩:=h;rw[Gp u];rfl
  ·cases h
theorem HJ:∀l:List Bs,HM (l.map .str)=some l
 |[]=>rfl
 |i::r=>by simp only[Zk,HM];rw[HJ r];rfl
def cI:∀l:List Bs,(l.map D.str).all VO=true
 |[]=>rfl
 |w::r=>by
  show(VO (.str w)&&_)=true;rw[cI r];rfl
end Go.Vd
namespace Go.Proofs
open Go.Shelf Go.RowKit Go.Lib
variable{P:Program}{ρ:Ren}
def MX{c:UInt8}{r:List UInt8}:∀{w:List UInt8},c∉w->Lib.indexByte (w++c::r) c=w.length
 |[],_=>by simp[Lib.indexByte]
 |b::w,h=>by
  simp only[Zx,not_or]at h;have ih:=MX (r:=r) h.2;have i:(b==c)=false:=beq_eq_false_iff_ne.2 (λe=>h.1 e.symm);have u:((w.length:Int)==-1)=false:=beq_eq_false_iff_ne.2 O;rw[Q5,Lib.indexByte,i,ih,u];simp
def splitK_eq(q:UInt8):∀(n:Nat)(s:List UInt8),s.length<=n->Lib.splitK [q] 0 (s.count q) s=Go.Vd.splitC q s:=by
 intro n;induction n with
 |zero=>intro s h;obtain rfl:s=[]:=List.length_eq_zero_iff.1 O;rfl
 |succ n ih=>
  intro s h;by_cases z:q∈s
  ·obtain⟨w,r,rfl,l⟩:=List.eq_append_cons_of_mem z;have k:(w++q::r).count q=r.count q+1:=by rw[List.count_append,Zl l];simp
   have hi:Lib.index (w++q::r) [q]=w.length:=by rw[Lib.index_one];exact MX l
   have u:¬((w.length:Int)==-1)=true:=λe=>by have:=beq_iff_eq.1 e;omega
   rw[k,Lib.splitK,hi,if_neg u,Go.Vd.split_word l,Qq];have e1:(w++q::r).take (w.length+0)=w:=U
   have e2:(w++q::r).drop (w.length+[q].length)=r:=by
    simp_all
   rw[e1,e2,ih r (by simp at h;omega)]
  ·rw[Zl z,Go.Vd.split_one z];rfl
set_option maxHeartbeats 1000000 in
def split_space(q:UInt8)(L:Lays.n146 P ρ)(b:(P.info? (ρ.t 9)).map (λi=>(i.zero,i.size,i.bytes))=some (some (.string ByteArray.empty),1,16))(s:ByteArray)(w:World)(m:s.size<4294967281):
  Calls P (ρ.f 146) #[.string s,.string ⟨#[q]⟩] w λe n=>
   e= .returned (.slice (some ⟨w.heap.size,0,none⟩) (Lib.countB s ⟨#[q]⟩+1) (Lib.countB s ⟨#[q]⟩+1))∧n=w.alloc (.cells ((Lib.splitB ⟨#[q]⟩ 0 (Lib.countB s ⟨#[q]⟩) s).map Value.string).toArray (ρ.t 9)):=by
 have u:1<=(⟨#[q]⟩:ByteArray).size:=QF 1;have ta:=Lib.countB_le ⟨#[q]⟩ u s.size s (QF _);have p:=Lib.splitB_all ⟨#[q]⟩ u 0 _ s rfl;have c:=Any.strings_genSplit_core {L with} b s ⟨#[q]⟩ 0 (-1) (Lib.countB s ⟨#[q]⟩+1) w m u (Qz _)
  (λx v _=>(Any.strings_Index_one {L with} x q _).mono λe n ⟨he,l⟩=>⟨by rw[he,←Lib.index_one],l⟩)
  ((Any.strings_Count_one {L with} s q w).mono λe n ⟨he,l⟩=>⟨by rw[he];show _=Ending.returned (Value.int .i64 ((Lib.count s.data.toList [q]:Nat):Int));rw[Lib.count_one];rfl,l⟩)
  Z Z (by rw[if_pos Z];omega)
 rw[ZI,p]at c;have e2:Lib.cellsOf (Lib.splitB ⟨#[q]⟩ 0 (Lib.countB s ⟨#[q]⟩) s) (Lib.countB s ⟨#[q]⟩+1)=((Lib.splitB ⟨#[q]⟩ 0 (Lib.countB s ⟨#[q]⟩) s).map Value.string).toArray:=by rw[←p];exact Lib.cellsOf_full _
 rw[e2]at c;have r:=L.t3;have k:=L.t9;have h:=L.t31;have z:=L.a3;have y:=L.a9;have j:=L.a31;have o:=L.z3;have v3:=L.v3;have z9:=L.z9;have v9:=L.v9;have d:=L.z31;have g:=L.v31;have a:∀args w,(callFunc (ρ.f 221) args).run P w= .ok (.enter (ρ.f 221) args) w:=enters_of L.f221 Xa rfl
 go_enter L.f146,Body.n146_ntmps ρ
 go_wp2_with (go_at_fn (ρ.f 221);refine c.mono ?_;rintro e n ⟨rfl,l⟩;rw[l])
 go_ret
 exact Qm
end Go.Proofs
namespace Go.Vd
open Go.RowKit Go.Proofs
def Hc:List D->Option D
 |[.str s,.str [q]]=>if s.length<=1000000 then some (.slice false [] ((splitC q s).map .str))else none
 |_=>none
def Na{q:UInt8}:∀s:Bs,(splitC q s).length<=s.length+1
 |[]=>by simp[splitC]
 |c::r=>by
  have ih:=Na (q:=q) r;unfold splitC;split
  ·simp;omega
  ·grind
def aAK {P:Program} {ρ:Go.Shelf.Ren} (L:Go.Proofs.Lays.n146 P ρ) (b:(P.info? (ρ.t 9)).map (fun i=>(i.zero,i.size,i.bytes))=some (some (.string ByteArray.empty),1,16)) (ma:∃fn,P.funcs[ρ.f 146]?=some fn∧fn.body.isSome=true∧(fn.name== "runtime.NumGoroutine")=false):(Af Hc).ok P (ρ.f 146):=by
 refine⟨ma,λds m m' fr _=>rfl,?_⟩;intro B w0 w m g fr ds vs r u hi fa hl da p;simp only[Af]at p;split at p
 ·rw[Qr]at p;obtain⟨r',hr,p⟩:=p;simp only[Qy]at p;obtain⟨rfl,rfl⟩:=p
  match ds,vs,hl with
  |[d,d1],[v,v1],_=>
   have h0:=da 0 d v rfl rfl;have y:=da 1 d1 v1 rfl rfl;have l:∃s,d= .str s:=by
    cases d<;>first|exact⟨_,rfl⟩|(exfalso;simp[Hc,D.un]at hr;done)
   obtain⟨s,rfl⟩:=l;have la:∃q,d1= .str [q]:=by
    cases d1 with
    |str z=>
     simp only[Zk,ZA,D.un,Hc]at hr;split at hr
     ·simp_all
     ·cases hr
    |_=>exfalso;simp[Hc,D.un]at hr
   obtain⟨q,rfl⟩:=la;simp only[Zk,ZA,D.un,Hc]at hr;split at hr
   ·rename_i k;simp only[Qo]at hr;subst hr;rw[h0.str_inv,y.str_inv];have a:Lib.countB ⟨s.toArray⟩ ⟨#[q]⟩=s.count q:=by
     show Lib.count s [q]=_;exact Lib.count_one q s
    have c:(Lib.splitB ⟨#[q]⟩ 0 (s.count q) ⟨s.toArray⟩).map (·.data.toList)=splitC q s:=by
     rw[Lib.splitB_data];exact Go.Proofs.splitK_eq q s.length s (QF _)
    have h:(splitC q s).length=s.count q+1:=by
     rw[←c,Qw,←a];exact Lib.splitB_all ⟨#[q]⟩ (QF 1) 0 _ _ rfl
    refine(Go.Proofs.split_space q L b ⟨s.toArray⟩ w (by show s.length<_;omega)).mono ?_;rintro ev w' ⟨rfl,rfl⟩;have j:Below w.heap.size w (w.alloc (.cells ((Lib.splitB ⟨#[q]⟩ 0 (Lib.countB ⟨s.toArray⟩ ⟨#[q]⟩) ⟨s.toArray⟩).map Value.string).toArray (ρ.t 9))):=(Below.refl _ _).alloc (QF _) _;refine⟨_,g.over w _,rfl,hi.over j,IF.over hi.gz j,aGq (e:=ρ.t 9) (n:=s.count q+1) hi j (cI _) (by rw[Qw,h]) ?_ U,λi hf _=>hf⟩;have o:=Na (q:=q) s;have ca:((splitC q s).map D.str).map (λd=>Value.string ⟨(pE d).toArray⟩)=(Lib.splitB ⟨#[q]⟩ 0 (s.count q) ⟨s.toArray⟩).map Value.string:=by
     rw[←c,QY,QY];refine QR λx _=>?_
     rfl
    rw[ca,a];have xa:((Lib.splitB ⟨#[q]⟩ 0 (s.count q) ⟨s.toArray⟩).map Value.string).length=s.count q+1:=by
     rw[←h,←c];simp
    refine⟨by rw[xa];omega,.inr ⟨w.heap.size,s.count q+1,_,rfl,QF _,heap_alloc_new w _,QF _,?_,?_,?_⟩⟩
    ·rw[h]at o;have:maxLen=9223372036854775807:=rfl;omega
    ·rw[List.size_toArray,xa];omega
    ·rw[Zf (by rw[xa];omega)]
   ·cases hr
  |[],_,_=>simp[Hc]at hr
  |[_],_,_=>simp[Hc]at hr
  |_::_::_::_,_,_=>simp[Hc]at hr
 ·cases p
end Go.Vd
namespace Go.Vd
open Go.Proofs Go.RowKit
def aKc:List D->Option D
 |[.str s]=>if s.length<=1000000 then some (.slice false [] ((splitC 47 s).map .str))else none
 |_=>none
def uP{l:Bs}{a k:Nat}(q:a<=k)(j:k<l.length):(l.drop a).take (k+1-a)=(l.drop a).take (k-a)++[l[k]]:=by
 rw[show k+1-a=(k-a)+1 by omega,Q2,List.getElem?_drop,show a+(k-a)=k by omega,Qp j];rfl
theorem lU{l:Bs}{a k:Nat}(q:a<=k)(j:k<l.length):l.drop a=(l.drop a).take (k-a)++l[k]::l.drop (k+1):=by
 have h:=ZE (k-a) (l.drop a);rw[ZF,show a+(k-a)=k by omega,QW j]at h;exact h.symm
set_option maxHeartbeats 2000000 in
def aGT{S:Ic}{l:Bs}{Q:Ex->St->Prop}(i:l.length<=1000000)
  (u:∀z t,z.s 3= .slice false t ((splitC 47 l).map .str)->Q (.exit 0) z):
  ∀(n k a:Nat)(t:Id)(b:List Bs) z g,n=l.length-k->k<=l.length->a<=k->b.length<=k->splitC 47 l=b++splitC 47 (l.drop a)->(47:UInt8)∉(l.drop a).take (k-a)->z.s 5= .int .i64 (k:Int)->z.s 4= .int .i64 (a:Int)->z.s 0= .str l->z.s 3= .slice b.isEmpty t (b.map .str)->Gw z.m z.c 9 b.isEmpty t->
   A2 S [] Oi Q z g:=by
 intro n;induction n with
 |zero=>
  intro k a t b z g f j q hp hu d h7 h6 r w hg;refine Ae Oi.eq_1 ?_;obtain rfl:k=l.length:=O
  have y:((l.length:Int)<=(l.length:Int))=True:=eq_true O;have c2:((0:Int)<=(l.length:Int))=True:=eq_true O;have c3:((a:Int)<=(l.length:Int))=True:=eq_true O;have c4:((0:Int)<=(a:Int))=True:=eq_true O;have c5:IntKind.i64.wrap ((l.length:Int)+1)=(l.length:Int)+1:=IntWalk.i64_in _ ⟨O,O⟩;have c6:(((l.length:Int)+1)<=(l.length:Int))=False:=eq_false O;have x:b.isEmpty=true->b.map D.str=[]:=λh=>YG
  simp only[↓C2,Ij,simprocAttr,QJ,QO,Qq,h7,h6,r,w,y,c2,c3,c4,and_false,and_self];refine AF.intro ⟨by simp only[Qw];omega,rfl,hg.put.toGrow⟩ ?_;rw[BN x];simp only[↓C2,Ij,simprocAttr,h7,c5];refine Ae Oi.eq_1 ?_;simp only[↓C2,Ij,simprocAttr,h7,r,c6];refine u _ [z.c+4+10+6] ?_;simp only[↓C2,reduceIte,Qv];have e:(l.drop a).take (l.length-a)=l.drop a:=Zf U;rw[e]at d;rw[hu,split_one d,e,ZC];rfl
 |succ n ih=>
  intro k a t b z g f j q hp hu d h7 h6 r w hg;refine Ae Oi.eq_1 ?_;have sa:k<l.length:=O
  have y:((k:Int)<=(l.length:Int))=True:=eq_true O;have o:((k:Int)=(l.length:Int))=False:=eq_false O;have c2:((0:Int)<=(k:Int))=True:=eq_true O;have c3:((a:Int)<=(k:Int))=True:=eq_true O;have c4:((0:Int)<=(a:Int))=True:=eq_true O;have c5:IntKind.i64.wrap ((k:Int)+1)=((k+1:Nat):Int):=YI
  have p:l[k]?=some l[k]:=Qp sa;have x:b.isEmpty=true->b.map D.str=[]:=λh=>YG
  by_cases v:l[k]=47
  ·have fa:((l[k].toNat:Int)=47)=True:=eq_true (by rw[v];rfl);simp only[↓C2,Ij,simprocAttr,QJ,QO,Qq,h7,h6,r,w,y,c2,c3,c4,o,p,fa,and_false,and_self];refine AF.intro ⟨by simp only[Qw];omega,rfl,hg.put.toGrow⟩ ?_;rw[BN x];simp only[↓C2,Ij,simprocAttr,h7,c5];have ma:(b++[(l.drop a).take (k-a)]).isEmpty=false:=by cases b<;>rfl
   refine ih (k+1) (k+1) [z.c+4+10+6] (b++[(l.drop a).take (k-a)]) _ _ O O O Xc ?_ U rfl rfl r ?_ ?_
   ·grind [lU,split_word]
   ·rw[ma,ZC];rfl
   ·grind [Gw.new]
  ·have fa:((l[k].toNat:Int)=47)=False:=eq_false (λe=>v (by rw[←UInt8.toNat_inj];have:((47:UInt8).toNat:Int)=47:=rfl;omega));simp only[↓C2,Ih,Ii,simprocAttr,Qq,h7,r,y,c2,c5,o,p,fa];refine ih (k+1) a t b _ _ O O O O hu ?_ rfl h6 r w (hg.more Xb);rw[uP q sa];simp only[ZO,List.mem_singleton,not_or];exact⟨d,λe=>v e.symm⟩
def aUE:Kq aKc 312:=by
 refine AD (S:=λ_=>none) AI (Ai func312:Fn Qs 312 32 aMR [.t 2]) (λds r h=>?_) (λds r h=>?_)
 ·unfold aKc at h;split at h
  ·simp
  ·cases h
 ·unfold aKc at h;split at h
  ·rename_i s;split at h
   ·rename_i i;simp only[Qo]at h;subst h;unfold aMR;simp only[↓C2,Ih,Qu];refine aGT (l:=s) i (λz t m=>?_) s.length 0 0 [] [] _ _ rfl O O U U U rfl rfl rfl rfl (.inl rfl);simp only[↓C2,Ij,simprocAttr,m]
   ·cases h
  ·cases h
def EL:Bool->List Bs->Option Bool
 |w,[]=>some w
 |w,p::r=>if Fp p=4 then none else EL (w||decide (Fp p=5)) r
def wI(w:Bool):Int:=if w=true then 5 else 0
def H1(l:List Bs):Int:=match EL false l with
 |none=>4
 |some w=>if w=true then 5 else if 6<l.length then 24 else 0
def okL(l:List Bs):Prop:=l.length<=1000001∧∀p∈l,p.length<=1000000
theorem Lz(s:Bs):Fp s=4∨Fp s=5∨Fp s=0:=by
 have:∀f p n,D_ s f p n=4∨D_ s f p n=5∨D_ s f p n=0:=by
  intro f;induction f with
  |zero=>intro p n;unfold D_;split<;>simp
  |succ f ih=>
   intro p n;unfold D_;split
   ·grind
   ·split<;>simp
 unfold Fp;split
 ·simp
 ·exact this _ _ _
open Classical in
def aFa:List D->Option D
 |[.slice _ _ xs]=>match HM xs with
  |some l=>if okL l then some (.int .i64 (H1 l))else none
  |none=>none
 |_=>none
def aGN{S:Ic}{ns:Id}{l:List Bs}{nl:Bool}{t:Id}{e:Option Bool}{Q:Ex->St->Prop}(i:okL l)(a:S 395=some (Af aE8))
  (c:∀z,e=none->z.s 2= .int .i64 4->Q .ret z) (u:∀z w,e=some w->z.s 3= .int .i64 (wI w)->z.s 0= .slice nl t (l.map .str)->Q (.exit 0) z):
  ∀(n k:Nat)(w:Bool) z g,n=l.length-k->k<=l.length->EL w (l.drop k)=e->z.s 8= .int .i64 (k:Int)->z.s 7= .int .i64 (l.length:Int)->z.s 6= .slice nl t (l.map .str)->z.s 0= .slice nl t (l.map .str)->z.s 3= .int .i64 (wI w)->A2 S ns P0 Q z g:=by
 intro n;induction n with
 |zero=>
  intro k w z g f j x h8 h7 q r o;refine Ae P0.eq_1 ?_;have:¬((k:Int)<l.length):=O
  simp only[↓C2,Ih,Ii,reduceIte,Qu,h8,h7,this];rw[ZB O]at x;exact u _ w x.symm XG (by simp only[↓C2,reduceIte,Qv,r])
 |succ n ih=>
  intro k w z g f j x h8 h7 q r o;refine Ae P0.eq_1 ?_;have m:k<l.length:=O
  have v:((k:Int)<l.length):=O
  have b:(0:Int)<=(k:Int):=O
  have p:(l.map D.str)[(k:Int).toNat]?=some (.str (l[k])):=by simp[m]
  have ua:=i.1;have d:IntKind.i64.wrap ((k:Int)+1)=((k+1:Nat):Int):=Iz O O;have hF:aE8 [.str l[k]]=some (.int .i64 (Fp l[k])):=if_pos (i.2 _ (Q6 m));rw[QW m]at x;simp only[EL]at x;rcases Lz l[k]with h|h|h
  ·rw[if_pos h]at x;rw[h]at hF;simp only[↓C2,Ij,simprocAttr,h8,h7,q,v,b,p,Ab a,hF];exact c _ x.symm rfl
  ·rw[if_neg O,h]at x;rw[h]at hF;have y:((5:Int)=4)=False:=by simp
   simp only[↓C2,Ij,simprocAttr,h8,h7,q,v,b,p,Ab a,hF,y,d];exact ih (k+1) true _ _ O O XB rfl h7 q r rfl
  ·rw[if_neg O,h]at x;rw[h]at hF;have y:((0:Int)=4)=False:=by simp
   have c2:((0:Int)=5)=False:=U
   simp only[↓C2,Ij,simprocAttr,h8,h7,q,v,b,p,Ab a,hF,y,c2,d];exact ih (k+1) w _ _ O O XB rfl h7 q r o
def aUq:Kq aFa 360:=by
 obtain⟨S,v,q⟩:=A7 (Aa aUn Ad);have a:=q 395 _ rfl;clear q;refine AD (S:=S) v (Ai func360:Fn Qs 360 27 aMn [.t 2]) (λds r h=>?_) (λds r h=>?_)
 ·unfold aFa at h;split at h
  ·simp
  ·cases h
 ·unfold aFa at h;split at h
  ·rename_i nl t xs;split at h
   ·rename_i l q;obtain rfl:=Gp q;split at h
    ·rename_i i;simp only[Qo]at h;subst h;unfold aMn H1;simp only[↓C2,Ih,simprocAttr,Qw];have p:=i.1;refine aGN (nl:=nl) (t:=t) (e:=EL false l) i a (λz u f=>?_) (λz w u f o=>?_) l.length 0 false _ _ O O rfl rfl rfl rfl rfl rfl
     ·simp only[↓C2,Ij,f,u]
     ·have j:((6:Int)<(l.length:Int))=(6<l.length):=by simp only[eq_iff_iff];omega
      have c2:((5:Int)=0)=False:=U
      have g:((0:Int)=0)=True:=U
      cases w<;>simp only[wI,reduceIte,QZ]at f<;>simp only[↓C2,Ij,simprocAttr,u,f,o,Qw,j,c2];refine aD (λh=>?_) (λh=>?_)<;>simp only[↓C2,Ij,simprocAttr,h,f,u]
    ·cases h
   ·cases h
  ·cases h
def Bf(s:Bs):Int:=if 64<s.length then 5 else H1 (splitC 47 s)
def TN:List D->Option D
 |[.str s]=>if s.length<=1000000 then some (.int .i64 (Bf s))else none
 |_=>none
def R7{s:Bs}(h:s.length<=1000000):okL (splitC 47 s):=by
 have:∀(s:Bs) w,w∈splitC 47 s->w.length<=s.length:=by
  intro s;induction s with
  |nil=>intro w l;simp[splitC]at l;simp[l]
  |cons c r ih=>
   intro w l;unfold splitC at l;split at l
   ·grind
   ·grind
 have f:=Na (q:=47) s;exact⟨O,λp g=>by have:=this s p g;omega⟩
def aG8{S:Ic}{ns:Id}{l:List Bs}{nl:Bool}{t:Id}{e:Option Bool}{Q:Ex->St->Prop}(i:okL l)(a:S 313=some (Af aFe))
  (c:∀z,e=none->z.s 2= .int .i64 4->Q .ret z) (u:∀z w,e=some w->z.s 4= .bool w->z.s 3= .slice nl t (l.map .str)->Q (.exit 0) z):
  ∀(n k:Nat)(w:Bool) z g,n=l.length-k->k<=l.length->EL w (l.drop k)=e->z.s 5= .int .i64 (k:Int)->z.s 3= .slice nl t (l.map .str)->z.s 4= .bool w->A2 S ns Rt Q z g:=by
 intro n;induction n with
 |zero=>
  intro k w z g f j x m o b;refine Ae Rt.eq_1 ?_;have:¬((k:Int)<l.length):=O
  simp only[↓C2,Ih,Ii,simprocAttr,m,o,Qw,this];rw[ZB O]at x;exact u _ w x.symm (by simp only[↓C2,reduceIte,Qv,b]) XG
 |succ n ih=>
  intro k w z g f j x m o b;refine Ae Rt.eq_1 ?_;have sa:k<l.length:=O
  have v:((k:Int)<l.length):=O
  have oa:(0:Int)<=(k:Int):=O
  have p:(l.map D.str)[(k:Int).toNat]?=some (.str (l[k])):=by simp[sa]
  have q:=i.1;have d:IntKind.i64.wrap ((k:Int)+1)=((k+1:Nat):Int):=Iz O O;have r:aFe [.str l[k]]=some (.int .i64 (Fp l[k])):=if_pos (i.2 _ (Q6 sa));rw[QW sa]at x;simp only[EL]at x;rcases Lz l[k]with h|h|h
  ·rw[if_pos h]at x;rw[h]at r;simp only[↓C2,Ij,simprocAttr,m,o,Qw,v,oa,p,Ab a,r];exact c _ x.symm rfl
  ·rw[if_neg O,h]at x;rw[h]at r;have y:((5:Int)=4)=False:=by simp
   cases w<;>simp only[↓C2,Ij,simprocAttr,m,o,b,Qw,v,oa,p,Ab a,r,y,d]
   all_goals exact ih (k+1) true _ _ O O XB rfl o rfl
  ·rw[if_neg O,h]at x;rw[h]at r;have y:((0:Int)=4)=False:=by simp
   have c2:((0:Int)=5)=False:=U
   cases w<;>simp only[↓C2,Ij,simprocAttr,m,o,b,Qw,v,oa,p,Ab a,r,y,c2,d]
   ·exact ih (k+1) false _ _ O O XB rfl o rfl
   ·exact ih (k+1) true _ _ O O XB rfl o rfl
def qD:Kq TN 211:=by
 obtain⟨S,v,q⟩:=A7 (Aa aUE (Aa aUD Ad));have b:=q 312 _ rfl;have a:=q 313 _ rfl;clear q;refine AD (S:=S) v (Ai func211:Fn Qs 211 34 aN0 [.t 2]) (λds r h=>?_) (λds r h=>?_)
 ·unfold TN at h;split at h
  ·simp
  ·cases h
 ·unfold TN at h;split at h
  ·rename_i s;split at h
   ·rename_i j;simp only[Qo]at h;subst h;unfold aN0 Bf;have n:((64:Int)<(s.length:Int))=(64<s.length):=by simp only[eq_iff_iff];omega
    have g:aKc [.str s]=some (.slice false [] ((splitC 47 s).map .str)):=if_pos j;have i:=R7 j;by_cases y:64<s.length
    ·simp only[↓C2,Ij,simprocAttr,n,y]
    ·simp only[↓C2,Ij,simprocAttr,n,y,Ab b,g];unfold H1;generalize splitC 47 s=l at i g ⊢;have p:=i.1;refine aG8 (nl:=false) (t:=[]) (e:=EL false l) i a (λz u f=>?_) (λz w u f o=>?_) l.length 0 false _ _ O O rfl rfl rfl rfl
     ·simp only[↓C2,Ij,reduceIte,f,u,y]
     ·have c1:((6:Int)<(l.length:Int))=(6<l.length):=by simp only[eq_iff_iff];omega
      cases w<;>simp only[↓C2,Ij,simprocAttr,u,f,o,y,Qw,c1];refine aD (λh=>?_) (λh=>?_)<;>simp only[↓C2,Ij,simprocAttr,h,u,y]
   ·cases h
  ·cases h
end Go.Vd
namespace Go.Proofs
open Go.Shelf
def aL:Go.Shelf.Ren:=⟨λ|146=>88|221=>186|268=>286|138=>287|143=>288|195=>353|197=>354|218=>355|219=>356|260=>389|217=>390|225=>391|224=>392|267=>393|266=>406|314=>407|n=>n,λ|9=>9|31=>28|3=>3|4=>4|0=>0|105=>423|21=>21|5=>5|46=>137|119=>462|139=>465|138=>464|146=>398|51=>392|n=>n,λ|1=>0|3=>1|4=>2|n=>n⟩
def aP:Go.Proofs.Lays.n146 Qs aL:={
 mixed:=Xa
 f138:=func287.trans (congrArg some Xa)
 f143:=func288.trans (congrArg some Xa)
 f146:=func88.trans (congrArg some Xa)
 f195:=func353.trans (congrArg some Xa)
 f197:=func354.trans (congrArg some Xa)
 f217:=func390.trans (congrArg some Xa)
 f218:=func355.trans (congrArg some Xa)
 f219:=func356.trans (congrArg some Xa)
 f221:=func186.trans (congrArg some Xa)
 f224:=func392.trans (congrArg some Xa)
 f225:=func391.trans (congrArg some Xa)
 f260:=func389.trans (congrArg some Xa)
 f266:=func406.trans (congrArg some Xa)
 f267:=func393.trans (congrArg some Xa)
 f268:=func286.trans (congrArg some Xa)
 f314:=func407.trans (congrArg some Xa)
 t0:=underlying0
 a0:=isAgg0
 z0:=sizeOf0
 v0:=zeroValue0
 t3:=underlying3
 a3:=isAgg3
 z3:=sizeOf3
 v3:=zeroValue3
 t4:=underlying4
 a4:=isAgg4
 z4:=sizeOf4
 v4:=zeroValue4
 t5:=underlying5
 a5:=isAgg5
 z5:=sizeOf5
 v5:=zeroValue5
 t9:=underlying9
 a9:=isAgg9
 z9:=sizeOf9
 v9:=zeroValue9
 t21:=underlying21
 a21:=isAgg21
 z21:=sizeOf21
 v21:=zeroValue21
 t31:=underlying28
 a31:=isAgg28
 z31:=sizeOf28
 v31:=zeroValue28
 t46:=underlying137
 a46:=isAgg137
 z46:=sizeOf137
 v46:=zeroValue137
 t51:=underlying392
 a51:=isAgg392
 z51:=sizeOf392
 v51:=zeroValue392
 t105:=underlying423
 a105:=isAgg423
 z105:=sizeOf423
 v105:=zeroValue423
 t119:=underlying462
 a119:=isAgg462
 z119:=sizeOf462
 t138:=underlying464
 a138:=isAgg464
 z138:=sizeOf464
 v138:=zeroValue464
 t139:=underlying465
 a139:=isAgg465
 z139:=sizeOf465
 v139:=zeroValue465
 t146:=underlying398
 a146:=isAgg398
 z146:=sizeOf398
 v146:=zeroValue398
 g1:=Xa
 g3:=Xa
 g4:=Xa}
end Go.Proofs
namespace Go.Vd
open Go.Proofs Go.RowKit
def aZQ:Kq Hc 88:=aAK aP Xa ⟨_,func88,Xa,Xa⟩
open Classical in
def aFf:List D->Option D
 |[.str s]=>if s.length<=1000000 then some (.tup [if Bf s=0 then .slice false [] ((splitC 47 s).map .str)else .slice true [] [],.int .i64 (Bf s)])else none
 |_=>none
def aJ5{l:List Bs}{nl:Bool}{t:Id}(h:okL l):aFa [.slice nl t (l.map .str)]=some (.int .i64 (H1 l)):=by
 grind [aFa,HJ]
def aUH:Kq aFf 300:=by
 obtain⟨S,v,w⟩:=A7 (Aa aZQ (Aa aUq Ad));have b:=w 88 _ rfl;have a:=w 360 _ rfl;clear w;refine AD (S:=S) v (Ai func300:Fn Qs 300 17 aMV [.t 2,.t 3]) (λds r h=>?_) (λds r h=>?_)
 ·unfold aFf at h;split at h
  ·simp
  ·cases h
 ·unfold aFf at h;split at h
  ·rename_i s;split at h
   ·rename_i j;simp only[Qo]at h;subst h;unfold aMV Bf;have l:((64:Int)<(s.length:Int))=(64<s.length):=by simp only[eq_iff_iff];omega
    have o:((5:Int)=0)=False:=U
    have g:Hc [.str s,.str [47]]=some (.slice false [] ((splitC 47 s).map .str)):=if_pos j;have p:=aJ5 (nl:=false) (t:=[]) (R7 j);have k:((splitC 47 s).map D.str).all D.calm=true:=by simp[QA];intros;rfl
    by_cases y:64<s.length
    ·simp only[↓C2,Ij,simprocAttr,l,y,o]
    ·simp only[↓C2,Ij,simprocAttr,l,y,Ab b,Ab a,g,p];refine aD (λh=>?_) (λh=>?_)<;>simp only[↓C2,Ij,simprocAttr,h,y]
   ·cases h
  ·cases h
def iJ:List D->Option D
 |[.str s]=>if s.length<=1000000 then some (.int .i64 (Bf s))else none
 |_=>none
def qE:Kq iJ 201:=by
 obtain⟨S,v,w⟩:=A7 (Aa aUH Ad);have a:=w 300 _ rfl;clear w;refine AD (S:=S) v (Ai func201:Fn Qs 201 11 aN8 [.t 2]) (λds r h=>?_) (λds r h=>?_)
 ·unfold iJ at h;split at h
  ·simp
  ·cases h
 ·unfold iJ at h;split at h
  ·rename_i s;split at h
   ·rename_i j;simp only[Qo]at h;subst h;have g:aFf [.str s]=some (.tup [if Bf s=0 then .slice false [] ((splitC 47 s).map .str)else .slice true [] [],.int .i64 (Bf s)]):=by
     simp only[aFf,if_pos j]
    unfold aN8;simp only[↓C2,Ij,simprocAttr,Ab a,g]
   ·cases h
  ·cases h
def aN4:=y0 f206 [] []
def aMU:=y0 f301 [] []
def aMG:=y0 f331 [] []
def aN9:=y0 f200 [] []
def aMW:=y0 f299 [] []
def aMJ:=y0 f323 [] []
def aPi:=y0 f111 [] []
def aOA:=y0 f165 [] []
def Rs:=y1 f212 4 [] []
def aNZ:=y0 f212 [] [(4,Rs)]
def B7(s t:Bs):Bool:=decide (s.take t.length=t)
def LS{s t:Bs}(h:B7 s t=true):t.length<=s.length:=by
 grind [B7]
def Bu(s y:Bs):Bool:=if y=[]then decide (s≠[])else B7 s y&&B7 (s.drop y.length) [47]
def Ba(s y:Bs):Bool:=decide (s=y)||Bu s y
def Dp(s y:Bs):Bs:=if y=[]then s else if B7 s y=true then(if B7 (s.drop y.length) [47]=true then(s.drop y.length).drop 1 else s.drop y.length)else []
def aKa:List D->Option D
 |[.str s,.str t]=>some (.bool (B7 s t))
 |_=>none
def aUA:Kq aKa 323:=by
 refine AD (S:=λ_=>none) AI (Ai func323:Fn Qs 323 18 aMJ [.t 4]) (λds r h=>?_) (λds r h=>?_)
 ·unfold aKa at h;split at h
  ·simp
  ·cases h
 ·unfold aKa at h;split at h
  ·rename_i s t;simp only[Qo]at h;subst h;unfold aMJ;have j:((t.length:Int)<=(s.length:Int))=(t.length<=s.length):=by simp only[eq_iff_iff];omega
   have c2:((0:Int)<=(t.length:Int))=True:=eq_true O;by_cases w:t.length<=s.length
   ·simp only[↓C2,Ij,simprocAttr,j,c2,w,Qq,QK,QB,and_self];simp[B7]
   ·simp only[↓C2,Ij,simprocAttr,j,w];have:B7 s t=false:=by rw[Zg];intro h;exact w (LS h)
    simp[this]
  ·cases h
def aKd:List D->Option D
 |[.str s,.str t]=>some (.tup [.str (if B7 s t=true then s.drop t.length else s),.bool (B7 s t)])
 |_=>none
def aUI:Kq aKd 299:=by
 obtain⟨S,v,w⟩:=A7 (Aa aUA Ad);have a:=w 323 _ rfl;clear w;refine AD (S:=S) v (Ai func299:Fn Qs 299 15 aMW [.t 4,.t 5]) (λds r h=>?_) (λds r h=>?_)
 ·unfold aKd at h;split at h
  ·simp
  ·cases h
 ·unfold aKd at h;split at h
  ·rename_i s t;simp only[Qo]at h;subst h;unfold aMW;have j:((t.length:Int)<=(s.length:Int))=(t.length<=s.length):=by simp only[eq_iff_iff];omega
   have c2:((0:Int)<=(t.length:Int))=True:=eq_true O;have g:aKa [.str s,.str t]=some (.bool (B7 s t)):=rfl;cases hp:B7 s t with
   |false=>simp only[↓C2,Ij,simprocAttr,Ab a,g,hp]
   |true=>
    have w:=LS hp;have e:(s.drop t.length).take (s.length-t.length)=s.drop t.length:=Zf U;simp only[↓C2,Ij,simprocAttr,Ab a,g,hp,j,c2,w,Qq,and_self,e]
  ·cases h
def aAh:List D->Option D
 |[.str s,.str t]=>some (.tup [.str (if B7 s t=true then s.drop t.length else s),.bool (B7 s t)])
 |_=>none
def aLo:Kq aAh 200:=by
 obtain⟨S,v,w⟩:=A7 (Aa aUI Ad);have a:=w 299 _ rfl;clear w;refine AD (S:=S) v (Ai func200:Fn Qs 200 11 aN9 [.t 4,.t 5]) (λds r h=>?_) (λds r h=>?_)
 ·unfold aAh at h;split at h
  ·simp
  ·cases h
 ·unfold aAh at h;split at h
  ·rename_i s t;simp only[Qo]at h;subst h;unfold aN9;have g:aKd [.str s,.str t]=some (.tup [.str (if B7 s t=true then s.drop t.length else s),.bool (B7 s t)]):=rfl;simp only[↓C2,Ij,simprocAttr,Ab a,g]
  ·cases h
def aAc:List D->Option D
 |[.str s,.str t]=>some (.tup [.str (Dp s t),.bool (Bu s t)])
 |_=>none
def aLa:Kq aAc 331:=by
 obtain⟨S,v,w⟩:=A7 (Aa aLo Ad);have a:=w 200 _ rfl;clear w;refine AD (S:=S) v (Ai func331:Fn Qs 331 25 aMG [.t 4,.t 5]) (λds r h=>?_) (λds r h=>?_)
 ·unfold aAc at h;split at h
  ·simp
  ·cases h
 ·unfold aAc at h;split at h
  ·rename_i s t;simp only[Qo]at h;subst h;unfold aMG;have g:∀s t,aAh [.str s,.str t]=some (.tup [.str (if B7 s t=true then s.drop t.length else s),.bool (B7 s t)]):=λ_ _=>rfl
   unfold Dp Bu;by_cases d:t=[]
   ·have u:(t=[])=True:=eq_true d;simp only[↓C2,Ij,simprocAttr,u]
    try simp
   ·have u:(t=[])=False:=eq_false d;cases h1:B7 s t with
    |false=>simp only[↓C2,Ij,simprocAttr,u,Ab a,g,h1,Zh]
    |true=>
     cases h2:B7 (s.drop t.length) [47]with
     |false=>simp only[↓C2,Ij,simprocAttr,u,Ab a,g,h1,h2]
     |true=>simp only[↓C2,Ij,simprocAttr,u,Ab a,g,h1,h2,QJ,QO]
  ·cases h
def aAd:List D->Option D
 |[.str s,.str t]=>some (.bool (Bu s t))
 |_=>none
def aLd:Kq aAd 301:=by
 obtain⟨S,v,w⟩:=A7 (Aa aLa Ad);have a:=w 331 _ rfl;clear w;refine AD (S:=S) v (Ai func301:Fn Qs 301 14 aMU [.t 4]) (λds r h=>?_) (λds r h=>?_)
 ·unfold aAd at h;split at h
  ·simp
  ·cases h
 ·unfold aAd at h;split at h
  ·rename_i s t;simp only[Qo]at h;subst h;unfold aMU;have g:aAc [.str s,.str t]=some (.tup [.str (Dp s t),.bool (Bu s t)]):=rfl;simp only[↓C2,Ij,simprocAttr,Ab a,g]
  ·cases h
def aAg:List D->Option D
 |[.str s,.str t]=>some (.bool (Ba s t))
 |_=>none
def aLn:Kq aAg 206:=by
 obtain⟨S,v,w⟩:=A7 (Aa aLd Ad);have d:=w 301 _ rfl;clear w;refine AD (S:=S) v (Ai func206:Fn Qs 206 13 aN4 [.t 4]) (λds r h=>?_) (λds r h=>?_)
 ·unfold aAg at h;split at h
  ·simp
  ·cases h
 ·unfold aAg at h;split at h
  ·rename_i s t;simp only[Qo]at h;subst h;unfold aN4;have g:aAd [.str s,.str t]=some (.bool (Bu s t)):=rfl;unfold Ba;by_cases j:s=t
   ·have pa:(s=t)=True:=eq_true j;simp only[↓C2,Ij,simprocAttr,pa]
    try simp
   ·have pa:(s=t)=False:=eq_false j;simp only[↓C2,Ij,simprocAttr,pa,Ab d,g]
    try simp
  ·cases h
def aG7{S:Ic}{ns:Id}{s t:Bs}{Q:Ex->St->Prop}(i:s.length<=1000000)(w:t.length<=s.length)
  (c:∀z,B7 s t=false->z.s 4= .bool false->Q .ret z) (ia:∀z,B7 s t=true->Q (.exit 0) z):
  ∀(n k:Nat) z g,n=t.length-k->k<=t.length->s.take k=t.take k->z.s 5= .int .i64 (k:Int)->z.s 0= .str s->z.s 1= .str t->A2 S ns Rs Q z g:=by
 intro n;induction n with
 |zero=>
  intro k z g f j x q r u;refine Ae Rs.eq_1 ?_;have:¬((k:Int)<t.length):=O
  simp only[↓C2,Ih,Ii,simprocAttr,q,u,this];refine ia _ ?_;obtain rfl:k=t.length:=O
  simp[B7,x]
 |succ n ih=>
  intro k z g f j x q r u;refine Ae Rs.eq_1 ?_;have a:k<t.length:=O
  have o:k<s.length:=O
  have v:((k:Int)<t.length):=O
  have b:(0:Int)<=(k:Int):=O
  have p:s[k]?=some s[k]:=Qp o;have d:t[k]?=some t[k]:=Qp a;have l:IntKind.i64.wrap ((k:Int)+1)=((k+1:Nat):Int):=Iz O O;have hc:((s[k].toNat:Int)=(t[k].toNat:Int))=(s[k]=t[k]):=by
   simp only[eq_iff_iff];constructor
   ·intro h;exact UInt8.toNat_inj.1 O
   ·intro h;rw[h]
  simp only[↓C2,Ih,Ii,simprocAttr,q,r,u,v,b,p,d,Qq,hc];refine Al ?_;simp only[↓C2,Ih,reduceIte,Qv];refine aD (λh=>?_) (λh=>?_)
  ·simp only[↓C2,Ih,Ii,simprocAttr,q,h,l]
   first
    |exact ih (k+1) _ _ O O (by rw[Q2,Q2,x,p,d,h]) rfl r u
    |(
     refine c _ ?_ rfl;rw[Zg];intro m;have m:s.take t.length=t:=by simpa[B7]using m
     have:s[k]=t[k]:=by
      have e:=congrArg (·[k]?) m;simp only[QN a,p,d,Qo]at e;exact e
     exact h this)
  ·simp only[↓C2,Ih,Ii,Qu,h]
   first
    |exact ih (k+1) _ _ O O (by rw[Q2,Q2,x,p,d,Classical.not_not.1 h]) rfl r u
    |(
     refine c _ ?_ rfl;rw[Zg];intro m;have m:s.take t.length=t:=by simpa[B7]using m
     have:s[k]=t[k]:=by
      grind
     exact h this)
def aKq:List D->Option D
 |[.str s,.str t]=>if s.length<=1000000 then some (.bool (B7 s t))else none
 |_=>none
def aU5:Kq aKq 212:=by
 refine AD (S:=λ_=>none) AI (Ai func212:Fn Qs 212 24 aNZ [.t 4]) (λds r h=>?_) (λds r h=>?_)
 ·unfold aKq at h;split at h
  ·simp
  ·cases h
 ·unfold aKq at h;split at h
  ·rename_i s t;split at h
   ·rename_i k;simp only[Qo]at h;subst h;unfold aNZ;have j:((s.length:Int)<(t.length:Int))=(s.length<t.length):=by simp only[eq_iff_iff];omega
    by_cases w:s.length<t.length
    ·have:B7 s t=false:=by rw[Zg];intro h;have:=LS h;omega
     simp only[↓C2,Ij,simprocAttr,j,w,this]
    ·simp only[↓C2,Ih,Ii,simprocAttr,j,w];refine aG7 (s:=s) (t:=t) k O (λz u q=>?_) (λz u=>?_) t.length 0 _ _ O O rfl rfl rfl rfl
     ·simp only[↓C2,Ij,u,q]
     ·simp only[↓C2,Ij,reduceIte,Qu,u]
   ·cases h
  ·cases h
theorem lJ(s t:Bs):B7 s (t++[47])=(B7 s t&&B7 (s.drop t.length) [47]):=by
 have h:=ZE t.length s;rw[Q1];simp only[B7,decide_eq_true_eq,QT,Zd,QJ,QO,QU];constructor
 ·intro e;rw[List.take_add]at e;have e1:(s.take t.length).length=t.length:=by
   grind
  have:=List.append_inj e e1;exact this
 ·grind
def iV(s t:Bs):(decide (t=[])||decide (s=t)||B7 s (t++[47]))=Ba s t:=by
 grind [Ba,Bu,lJ]
def bL:List D->Option D
 |[.str s,.str t]=>if s.length<=1000000∧t.length<=1000000 then some (.bool (Ba s t))else none
 |_=>none
def aBM:Kq bL 111:=by
 obtain⟨S,v,w⟩:=A7 (Aa aU5 Ad);have a:=w 212 _ rfl;clear w;refine AD (S:=S) v (Ai func111:Fn Qs 111 18 aPi [.t 4]) (λds r h=>?_) (λds r h=>?_)
 ·unfold bL at h;split at h
  ·simp
  ·cases h
 ·unfold bL at h;split at h
  ·rename_i s t;split at h
   ·rename_i k;simp only[Qo]at h;subst h;unfold aPi;have g:aKq [.str s,.str (t++[47])]=some (.bool (B7 s (t++[47]))):=if_pos k.1;have w:(t.length+1<=9223372036854775807)=True:=eq_true O;rw[←iV];by_cases d:t=[]
    ·have u:(t=[])=True:=eq_true d;simp only[↓C2,Ij,simprocAttr,u]
     try simp
    ·have u:(t=[])=False:=eq_false d;by_cases j:s=t
     ·have pa:(s=t)=True:=eq_true j;simp only[↓C2,Ij,simprocAttr,u,pa]
      try simp
     ·have pa:(s=t)=False:=eq_false j;simp only[↓C2,Iw,Ii,simprocAttr,u,pa,Ab a,g,w]
      try simp
   ·cases h
  ·cases h
def oO:List D->Option D
 |[.str s,.str t]=>if s.length<=1000000∧t.length<=1000000 then some (.bool (Bu s t))else none
 |_=>none
def aLp:Kq oO 165:=by
 obtain⟨S,v,w⟩:=A7 (Aa aBM Ad);have y:=w 111 _ rfl;clear w;refine AD (S:=S) v (Ai func165:Fn Qs 165 13 aOA [.t 4]) (λds r h=>?_) (λds r h=>?_)
 ·unfold oO at h;split at h
  ·simp
  ·cases h
 ·unfold oO at h;split at h
  ·rename_i s t;split at h
   ·rename_i k;simp only[Qo]at h;subst h;unfold aOA;have g:bL [.str s,.str t]=some (.bool (Ba s t)):=if_pos k;have e:Bu s t=(Ba s t&&decide (s≠t)):=by
     grind [Ba,Bu,B7]
    rw[e];cases hw:Ba s t with
    |false=>simp only[↓C2,Ij,simprocAttr,Ab y,g,hw,Zh]
    |true=>
     simp only[↓C2,Ij,simprocAttr,Ab y,g,hw]
   ·cases h
  ·cases h
def aYB:=y0 f27 [] []
def aYz:=y0 f29 [] []
def aYA:=y0 f28 [] []
def V4:=y1 f44 4 [] []
def aYp:=y0 f44 [] [(4,V4)]
def Ru:=y1 f202 4 [] []
def aN7:=y0 f202 [] [(4,Ru)]
def aXO:=y0 f98 [] []
def aNY:=y0 f213 [] []
def Rq:=y1 Tryz.f217 4 [] []
def aNV:=y0 Tryz.f217 [] [(4,Rq)]
def aMP:=y0 Tryz.f314 [] []
def aYu:=y0 f368 [] []
def aMk:=y0 f369 [] []
def aHO:=y1 f399 2 [] []
def aYs:=y0 f399 [] [(2,aHO)]
def Rr:=y1 f214 4 [] []
def aNX:=y0 f214 [] [(4,Rr)]
def Rp:=y1 Tryz.f218 11 [] []
def Ro:=y1 Tryz.f218 4 [] [(11,Rp)]
def aNU:=y0 Tryz.f218 [] [(4,Ro)]
def Rn:=y1 Tryz.f219 2 [] []
def aNT:=y0 Tryz.f219 [] [(2,Rn)]
def Rm:=y1 f220 3 [] []
def aNS:=y0 f220 [] [(3,Rm)]
def aXQ:=y0 f95 [] []
def Rv:=y1 f199 3 [] []
def aOa:=y0 f199 [] [(3,Rv)]
def Rx:=y1 f198 3 [] []
def aOb:=y0 f198 [] [(3,Rx)]
def aNW:=y0 f215 [] []
def RN:=y1 f114 7 [(9,[(6,2)])] []
def RL:=y1 f114 4 [] [(7,RN)]
def aPf:=y0 f114 [] [(4,RL)]
def RJ:=y1 f118 5 [] []
def aPb:=y0 f118 [] [(5,RJ)]
def aOB:=y0 f164 [] []
def Es(op:Int):Int:=if op=9∨op=14∨op=18 then 1 else if op=10∨op=15 then 2 else if op=11∨op=12 then 4 else if op=13∨op=16 then 8 else if op=17 then 16 else if 3<=op∧op<=8 then 32 else 0
def L9(op:Int):Bool:=decide (4<=op∧op<=18∧op≠9∧op≠14∧op≠17)
def F27:List D->Option D
 |[.int .u8 op]=>some (.int .u8 (Es op))
 |_=>none
def aUL:Kq F27 27:=by
 refine AD (S:=λ_=>none) AI (Ai func27:Fn Qs 27 26 aYB [.t 2]) (λds r h=>?_) (λds r h=>?_)
 ·unfold F27 at h;split at h
  ·simp
  ·cases h
 ·unfold F27 at h;split at h
  ·rename_i op;simp only[Qo]at h;subst h;unfold aYB;simp only[↓C2,Ih,simprocAttr]
   repeat' (first|(refine aD (λh=>?_) (λh=>?_)<;>try (exfalso;omega))|(simp only[↓C2,Ij,simprocAttr,h]))
   all_goals (first|rfl|(rw[D.int.injEq];refine⟨rfl,?_⟩;unfold Es;(repeat' split)<;>first|rfl|(exfalso;omega)))
  ·cases h
def F28:List D->Option D
 |[.int .i64 op]=>some (.int .u8 (Es op))
 |_=>none
def aZ2:Kq F28 28:=by
 refine AD (S:=λ_=>none) AI (Ai func28:Fn Qs 28 39 aYA [.t 2]) (λds r h=>?_) (λds r h=>?_)
 ·unfold F28 at h;split at h
  ·simp
  ·cases h
 ·unfold F28 at h;split at h
  ·rename_i op;simp only[Qo]at h;subst h;unfold aYA;simp only[↓C2,Ih,simprocAttr]
   repeat' (first|(refine aD (λh=>?_) (λh=>?_)<;>try (exfalso;omega))|(simp only[↓C2,Ij,simprocAttr,h]))
   all_goals (first|rfl|(rw[D.int.injEq];refine⟨rfl,?_⟩;unfold Es;(repeat' split)<;>first|rfl|(exfalso;omega)))
  ·cases h
def F29:List D->Option D
 |[.int .u8 op]=>some (.bool (L9 op))
 |_=>none
def aZ1:Kq F29 29:=by
 refine AD (S:=λ_=>none) AI (Ai func29:Fn Qs 29 14 aYz [.t 2]) (λds r h=>?_) (λds r h=>?_)
 ·unfold F29 at h;split at h
  ·simp
  ·cases h
 ·unfold F29 at h;split at h
  ·rename_i op;simp only[Qo]at h;subst h;unfold aYz;simp only[↓C2,Ih,simprocAttr]
   repeat' (first|(refine aD (λh=>?_) (λh=>?_)<;>try (exfalso;omega))|(simp only[↓C2,Ij,simprocAttr,h]))
   all_goals (rw[D.bool.injEq,Q1];simp[L9];try omega)
  ·cases h
def DP(c:Int):Bool:=decide (97<=c∧c<=122)||decide (48<=c∧c<=57)
def Gz(s:Bs):Nat->Nat->Bool
 |0,_=>true
 |f+1,p=>if p<s.length then DP (at' s p)&&Gz s f (p+1)else true
def BV(s:Bs):Bool:=decide (1<=s.length)&&decide (s.length<=8)&&Gz s s.length 0
def aDn(s:Bs)(p:Nat)(g:p<s.length):DP ((Utf8.decode ⟨s.toArray⟩ p).1:Nat)=DP (at' s p)∧(DP (at' s p)=true->(Utf8.decode ⟨s.toArray⟩ p).2=1):=by
 have b:=L4 s p;by_cases h:at' s p<128
 ·have:Utf8.decode ⟨s.toArray⟩ p=(at' s p,1):=by
   unfold Utf8.decode;simp only[VS,Zz,h,if_true]
  rw[this];exact⟨rfl,λ_=>rfl⟩
 ·have u:DP (at' s p)=false:=by simp[DP];omega
  have q:128<=(Utf8.decode ⟨s.toArray⟩ p).1:=by
   unfold Utf8.decode;simp only[VS,Zz,h,if_false]
   (repeat' split)<;>simp_all [Utf8.runeError]<;>omega
  refine⟨?_,λe=>by rw[u]at e;cases e⟩;rw[u];simp[DP];omega
def aG9{S:Ic}{ns i:Id}{s:Bs}{Q:Ex->St->Prop}{e:Bool}(n:∀z,e=false->z.s 2= .bool false->Q .ret z)(u:∀z,e=true->Q (.exit 0) z):
  ∀(f p:Nat) z g,s.length<=p+f->Gz s f p=e->z.s 13= .itp i->z.m i 1=some (.it s p)->A2 S ns Ru Q z g:=by
 intro f;induction f with
 |zero=>
  intro p z g a x r c;refine Ae Ru.eq_1 ?_;have:¬(p<s.length):=O
  simp only[↓C2,Ih,Ii,simprocAttr,c,r,this];exact u _ x.symm
 |succ f ih=>
  intro p z g a x r c;refine Ae Ru.eq_1 ?_;unfold Gz at x;by_cases v:p<s.length
  ·rw[if_pos v]at x;obtain⟨d1,d2⟩:=aDn s p v;cases ho:DP (at' s p)with
   |true=>
    rw[ho,ZH]at x;have w:=d2 ho;rw[ho]at d1;have d:(97<=((Utf8.decode ⟨s.toArray⟩ p).1:Int)∧((Utf8.decode ⟨s.toArray⟩ p).1:Int)<=122)∨(48<=((Utf8.decode ⟨s.toArray⟩ p).1:Int)∧((Utf8.decode ⟨s.toArray⟩ p).1:Int)<=57):=by simpa[DP]using d1
    have k:z.m.put i 1 [.it s (p+(Utf8.decode ⟨s.toArray⟩ p).2)] i 1=some (.it s (p+1)):=by rw[Gv,if_pos ⟨rfl,rfl⟩,w]
    simp only[↓C2,Ih,Ii,simprocAttr,c,r,v]
    repeat' (first|(refine aD (λh=>?_) (λh=>?_)<;>try (exfalso;omega))|(simp only[↓C2,Ih,Ii,simprocAttr,h]))
    all_goals (first|exact ih _ _ _ O x r k|(exfalso;omega))
   |false=>
    rw[ho,Zh]at x;rw[ho]at d1;have d:¬((97<=((Utf8.decode ⟨s.toArray⟩ p).1:Int)∧((Utf8.decode ⟨s.toArray⟩ p).1:Int)<=122)∨(48<=((Utf8.decode ⟨s.toArray⟩ p).1:Int)∧((Utf8.decode ⟨s.toArray⟩ p).1:Int)<=57)):=by
     grind [DP]
    simp only[↓C2,Ih,Ii,simprocAttr,c,r,v]
    repeat' (first|(refine aD (λh=>?_) (λh=>?_)<;>try (exfalso;omega))|(simp only[↓C2,Ih,Ii,simprocAttr,h]))
    all_goals (first|exact n _ x.symm rfl|(exfalso;omega))
  ·rw[if_neg v]at x;simp only[↓C2,Ih,Ii,simprocAttr,c,r,v];exact u _ x.symm
def aKs:List D->Option D
 |[.str s]=>some (.bool (BV s))
 |_=>none
def aU9:Kq aKs 202:=by
 refine AD (S:=λ_=>none) AI (Ai func202:Fn Qs 202 31 aN7 [.t 2]) (λds r h=>?_) (λds r h=>?_)
 ·unfold aKs at h;split at h
  ·simp
  ·cases h
 ·unfold aKs at h;split at h
  ·rename_i s;simp only[Qo]at h;subst h;unfold aN7;unfold BV;have j:((8:Int)<(s.length:Int))=(8<s.length):=by simp only[eq_iff_iff];omega
   by_cases m:s=[]
   ·subst m;simp only[↓C2,Ij,simprocAttr]
    try simp
   ·have p:(s=[])=False:=eq_false m;have w:1<=s.length:=by cases s with|nil=>exact absurd rfl m|cons _ _=>simp
    by_cases y:8<s.length
    ·simp only[↓C2,Ij,simprocAttr,p,j,y];simp;omega
    ·simp only[↓C2,Ih,Ii,simprocAttr,p,j,y];have e1:(decide (1<=s.length)&&decide (s.length<=8)&&Gz s s.length 0)=Gz s s.length 0:=by simp;omega
     rw[e1];refine aG9 (e:=Gz s s.length 0) (λz u q=>?_) (λz u=>?_) s.length 0 _ _ O rfl rfl Yr
     ·simp only[↓C2,Ij,u,q]
     ·simp only[↓C2,Ij,reduceIte,Qu,u]
  ·cases h
theorem Ag{m:Ig}{i a:Id}{o o':Nat}{ds:List D}:m.put i o ds a o'=if a=i∧o<=o'∧o'<o+ds.length then ds[o'-o]? else m a o':=rfl
def Ao{m:Ig}{i:Id}{o:Nat}:Ah m i o 0=some []:=rfl
def Ap{m:Ig}{i:Id}{o n:Nat}:Ah m i o (n+1)=(m i o).bind λd=>(Ah m i (o+1) n).map (d::·):=by
 show(match m i o with|some d=>_|none=>none)=_;cases m i o<;>rfl
def BA{s:Nat->D}{m:Ig}{k:Option Nat}{a:Nat}:Cw [.cell k a] s m=Tl m k (s a):=by
 simp only[Cw,Gt,RV.of];cases Tl m k (s a)<;>rfl
def A6{m:Ig}{n:Nat}{i:Id}{o:Nat}:Tl m (some n) (.ptr i o)=(Ah m i o n).map .agg:=rfl
def Cm(k:Int)(name:Bs)(n:Int):Int:=
 if k=1 then(if n=0∧Bf name=0 then 0 else 2)else if k=2 then(if 1<=n∧n<=30∧Bf name=0 then 0 else 2)else if k=3 then(if n=0∧BV name=true then 0 else 2)
 else if k=4∨k=5 then(if n=0∧name=[]then 0 else 2)else 22
def F98:List D->Option D
 |[.agg [.int .u8 k,.str name,.int .i64 n]]=>if name.length<=1000000 then some (.int .i64 (Cm k name n))else none
 |_=>none
def aGF:Kq F98 98:=by
 obtain⟨S,v,w⟩:=A7 (Aa qE (Aa aU9 Ad));have f:=w 201 _ rfl;have d:=w 202 _ rfl;clear w;refine AD (S:=S) v (Ai func98:Fn Qs 98 53 aXO [.t 2]) (λds r h=>?_) (λds r h=>?_)
 ·unfold F98 at h;split at h
  ·simp
  ·cases h
 ·unfold F98 at h;split at h
  ·rename_i k name n;split at h
   ·rename_i x;simp only[Qo]at h;subst h;unfold aXO;have a:iJ [.str name]=some (.int .i64 (Bf name)):=if_pos x;have c:aKs [.str name]=some (.bool (BV name)):=rfl;unfold Cm;generalize Bf name=e at *;generalize BV name=b at *;simp only[↓C2,Iw,simprocAttr,Ag,Qz,QK,Qt,QC,and_self]
    repeat' (first|(refine aD (λh=>?_) (λh=>?_)<;>try (exfalso;omega))|(simp only[↓C2,Is,simprocAttr,h,Ag,Ab f,Ab d,a,c]))
    all_goals (first|rfl|(rw[D.int.injEq];refine⟨rfl,?_⟩;(repeat' split)<;>first|rfl|(exfalso;simp_all;done)|(exfalso;simp_all;omega)))
   ·cases h
  ·cases h
def aFk:List D->Option D
 |[.str s]=>if s.length<=1000000 then some (.bool (BV s))else none
 |_=>none
def aU4:Kq aFk 213:=by
 obtain⟨S,v,w⟩:=A7 (Aa aGF Ad);have a:=w 98 _ rfl;clear w;refine AD (S:=S) v (Ai func213:Fn Qs 213 7 aNY [.t 2]) (λds r h=>?_) (λds r h=>?_)
 ·unfold aFk at h;split at h
  ·simp
  ·cases h
 ·unfold aFk at h;split at h
  ·rename_i s;split at h
   ·rename_i k;simp only[Qo]at h;subst h;unfold aNY;have g:F98 [.agg [.int .u8 3,.str s,.int .i64 0]]=some (.int .i64 (Cm 3 s 0)):=if_pos k;have e:Cm 3 s 0=if BV s=true then 0 else 2:=by simp[Cm]
    simp only[↓C2,Iw,Ii,simprocAttr,DV,Zs,Q9,Za,QB,Q5,ZD,and_self,Cd,Ab a,g,e,and_self];cases BV s<;>simp
   ·cases h
  ·cases h
def aG5{S:Ic}{ns:Id}{s:Bs}{Q:Ex->St->Prop}{e:Bool}(i:s.length<=1000000)(n:∀z,e=false->z.s 2= .bool false->Q .ret z)(u:∀z,e=true->Q (.exit 0) z):
  ∀(f p:Nat) z g,s.length<=p+f->p<=s.length->Gz s f p=e->z.s 0= .str s->z.s 3= .int .i64 (p:Int)->A2 S ns Rq Q z g:=by
 intro f;induction f with
 |zero=>
  intro p z g a m x r o;refine Ae Rq.eq_1 ?_;have:¬((p:Int)<s.length):=O
  simp only[↓C2,Ih,Ii,simprocAttr,r,o,this];exact u _ x.symm
 |succ f ih=>
  intro p z g a m x r o;refine Ae Rq.eq_1 ?_;unfold Gz at x;by_cases v:p<s.length
  ·rw[if_pos v]at x;have ca:((p:Int)<s.length):=by omega
   have la:(0:Int)<=(p:Int):=O
   obtain⟨c,k,y⟩:=RS v;have l:IntKind.i64.wrap ((p:Int)+1)=((p+1:Nat):Int):=Iz O O;rw[y]at x;cases ho:DP (c.toNat:Nat)with
   |true=>
    rw[ho,ZH]at x;have d:(97<=(c.toNat:Int)∧(c.toNat:Int)<=122)∨(48<=(c.toNat:Int)∧(c.toNat:Int)<=57):=by simpa[DP]using ho
    simp only[↓C2,Ih,Ii,simprocAttr,r,o,ca,la,Qq,k]
    repeat' (first|(refine aD (λh=>?_) (λh=>?_)<;>try (exfalso;omega))|(simp only[↓C2,Ih,Ii,simprocAttr,h,r,o,la,Qq,k,l]))
    all_goals (first|exact ih _ _ _ O O x r rfl|(exfalso;omega))
   |false=>
    rw[ho,Zh]at x;have d:¬((97<=(c.toNat:Int)∧(c.toNat:Int)<=122)∨(48<=(c.toNat:Int)∧(c.toNat:Int)<=57)):=by
     grind [DP]
    simp only[↓C2,Ih,Ii,simprocAttr,r,o,ca,la,Qq,k]
    repeat' (first|(refine aD (λh=>?_) (λh=>?_)<;>try (exfalso;omega))|(simp only[↓C2,Ih,Ii,simprocAttr,h,r,o,la,Qq,k]))
    all_goals (first|exact n _ x.symm rfl|(exfalso;omega))
  ·rw[if_neg v]at x;have ca:¬((p:Int)<s.length):=by omega
   simp only[↓C2,Ih,Ii,simprocAttr,r,o,ca];exact u _ x.symm
def bH:List D->Option D
 |[.str s]=>some (.bool (BV s))
 |_=>none
def aBJ:Kq bH 217:=by
 refine AD (S:=λ_=>none) AI (Ai func217:Fn Qs 217 40 aNV [.t 2]) (λds r h=>?_) (λds r h=>?_)
 ·unfold bH at h;split at h
  ·simp
  ·cases h
 ·unfold bH at h;split at h
  ·rename_i s;simp only[Qo]at h;subst h;unfold aNV;unfold BV;have j:((8:Int)<(s.length:Int))=(8<s.length):=by simp only[eq_iff_iff];omega
   have c2:((s.length:Int)<1)=(s.length<1):=by simp only[eq_iff_iff];omega
   by_cases m:s.length<1
   ·simp only[↓C2,Ij,simprocAttr,c2,m];simp;omega
   ·by_cases y:8<s.length
    ·simp only[↓C2,Ij,simprocAttr,j,c2,m,y];simp;omega
    ·simp only[↓C2,Ih,Ii,simprocAttr,j,c2,m,y];have e1:(decide (1<=s.length)&&decide (s.length<=8)&&Gz s s.length 0)=Gz s s.length 0:=by
      grind
     rw[e1];refine aG5 (e:=Gz s s.length 0) O (λz u q=>?_) (λz u=>?_) s.length 0 _ _ O O rfl rfl rfl
     ·simp only[↓C2,Ij,u,q]
     ·simp only[↓C2,Ij,reduceIte,Qu,u]
  ·cases h
def GW(m:Ig):List D->Option D
 |[]=>some .junk
 |[.ptr i 0]=>m i 0
 |_=>none
def aH0:List D->List Loc
 |[.ptr i 0]=>[(i,0)]
 |_=>[]
theorem S_{m m':Ig}{caps:List D}(h:∀l∈aH0 caps,m l.1 l.2=m' l.1 l.2):GW m caps=GW m' caps:=by
 unfold GW;split
 ·rfl
 ·simp_all [aH0]
 ·rfl
def L3(F:D->D->Option D):IS where
 rd:=λds _=>aH0 ds.tail
 ex:=λds m _=>match ds with
  |x::caps=>(GW m caps).bind λc=>(F c x).map λd=>(d,[])
  |[]=>none
def GJ:List (Option D)->Option (List Bool)
 |[]=>some []
 |some (.bool b)::r=>(GJ r).map (b::·)
 |_=>none
def Bc(l:List Bool):Int:=match l.findIdx? id with
 |some k=>k
 |none=>-1
def F8(l:List Bool):decide (0<=Bc l)=l.any id:=by
 grind [Bc]
def rJ:Option Nat->D->Bool
 |none,.agg _=>false
 |none,_=>true
 |some n,.agg cs=>cs.length==n
 |some _,_=>false
def fnR(ds:List D):List Loc:=match ds with
 |[_,.fn _ caps]=>aH0 caps
 |_=>[]
def GU(g:FuncId)(k:Option Nat)(F:D->D->Option D):IS where
 rd:=λds _=>fnR ds
 ex:=λds m _=>match ds with
  |[.slice _ _ xs,.fn g' caps]=>if g'=g∧xs.length<=1000000∧xs.all (rJ k)=true then(GW m caps).bind λc=>(GJ (xs.map (F c))).map λbs=>(.int .i64 (Bc bs),[])else none
  |_=>none
def iO(g:FuncId)(k:Option Nat)(F:D->D->Option D):IS where
 rd:=λds _=>fnR ds
 ex:=λds m _=>match ds with
  |[.slice _ _ xs,.fn g' caps]=>if g'=g∧xs.length<=1000000∧xs.all (rJ k)=true then(GW m caps).bind λc=>(GJ (xs.map (F c))).map λbs=>(.bool (bs.any id),[])else none
  |_=>none
def aHJ(sz:Nat)(k:Option Nat):DC:=(.seq (.row [⟨some 9,.bin .lss (.t 8) (.t 7),[],none⟩]) (.seq (.cond (.t 9) .skip (.exit 0)) (.seq (.block 1 (.seq (.row [⟨some 10,.mv (.t 8),[],none⟩,⟨some 5,.mv (.t 10),[],none⟩]) (.seq (.row [⟨some 11,.mv (.t 1),[],none⟩,⟨some 12,.mv (.t 0),[],none⟩,⟨some 13,.mv (.t 5),[],none⟩,⟨some 14,.iaddr sz (.t 12) (.t 13),[],none⟩,⟨some 15,.load k (.t 14),[],none⟩,⟨some 16,.call (.t 11) [(.t 15)],[],none⟩]) (.cond (.t 16) (.seq (.row [⟨some 17,.mv (.t 5),[],none⟩,⟨some 4,.mv (.t 17),[],none⟩]) .ret) .skip)))) (.row [⟨some 18,.bin .add (.t 8) (.c (.int .i64 1)),[],none⟩,⟨some 8,.mv (.t 18),[],none⟩]))))
def dcI(sz:Nat)(k:Option Nat):DC:=(.seq (.row [⟨some 4,.mv (.c (.int .i64 0)),[],none⟩]) (.seq (.seq (.row [⟨some 6,.mv (.t 0),[],none⟩,⟨some 7,.len false (.t 6),[],none⟩,⟨some 8,.mv (.c (.int .i64 0)),[],none⟩]) (.block 0 (.loop (aHJ sz k)))) (.seq (.row [⟨some 4,.mv (.c (.int .i64 (-1))),[],none⟩]) .ret)))
def aHK(f:FuncId):DC:=(.seq (.row [⟨some 4,.mv (.c (.bool false)),[],none⟩]) (.seq (.row [⟨some 5,.mv (.t 0),[],none⟩,⟨some 6,.mv (.t 1),[],none⟩,⟨some 7,.call (.c (.fn f [])) [(.t 5),(.t 6)],[],none⟩,⟨some 8,.bin .geq (.t 7) (.c (.int .i64 0)),[],none⟩,⟨some 4,.mv (.t 8),[],none⟩]) .ret))
def aPZ(sz:Nat):Option Nat->Prop
 |none=>sz=1
 |some n=>sz=n
def aRe{sz:Nat}{k:Option Nat}(h:aPZ sz k){x:D}(p:rJ k x=true):x.cells.length=sz:=by
 cases k with
 |none=>cases x<;>first|(cases p;done)|exact h.symm
 |some n=>cases x<;>first|(cases p;done)|(simp only[rJ,beq_iff_eq]at p;exact p.trans h.symm)
def aDa{m:Ig}{k:Option Nat}{x:D}{K:D->Ir->Prop}{t:Tag (m,K)}(p:rJ k x=true):Sw k (.eptr x.cells) m K t=K x []:=by
 cases k with
 |none=>cases x<;>first|(cases p;done)|(simp only[Sv,D.cells,QE,Bi])
 |some n=>
  cases x<;>first|(cases p;done)|skip
  rename_i cs;simp only[rJ,beq_iff_eq]at p;subst p;simp only[Pv,D.cells,QF,U2,ZM]
def Ol:∀{l:List (Option D)} {bs:List Bool},GJ l=some bs->l=bs.map λb=>some (.bool b)
 |[],bs,h=>by simp only[GJ,Qo]at h;subst h;rfl
 |x::r,bs,h=>by
  unfold GJ at h;split at h
  ·rename_i e;cases e
  ·rename_i b s e;cases e;rw[Qr]at h;obtain⟨a,u,rfl⟩:=h;rw[Ol u];rfl
  ·cases h
def aV9{S:Ic}{ns:Id}{sz:Nat}{k:Option Nat}{g:FuncId}{F:D->D->Option D}{xs caps:List D}{c:D}{bs:List Bool}{nl:Bool}{t:Id}{m:Ig}{Q:Ex->St->Prop}(pa:aPZ sz k)(hg:S g=some (L3 F))(hb:xs.length<=1000000)(o:xs.all (rJ k)=true)
  (ra:GW m caps=some c) (d:xs.map (F c)=bs.map λb=>some (.bool b))
  (ma:∀(j:Nat) z,z.m=m->bs.findIdx? id=some j->z.s 4= .int .i64 (j:Int)->Q .ret z) (w:∀z,z.m=m->bs.findIdx? id=none->Q (.exit 0) z):
  ∀(n j:Nat) z tg,n=xs.length-j->j<=xs.length->(∀i,i<j->bs[i]?=some false)->z.m=m->z.s 8= .int .i64 (j:Int)->z.s 7= .int .i64 (xs.length:Int)->z.s 0= .slice nl t xs->z.s 1= .fn g caps->A2 S ns (aHJ sz k) Q z tg:=by
 intro n;have h:bs.length=xs.length:=by simpa using (congrArg ZX d).symm
 induction n with
 |zero=>
  intro j z tg hn hj ca a h8 h7 r u;refine Ae (aHJ.eq_1 sz k) ?_;have:¬((j:Int)<xs.length):=O
  simp only[↓C2,Ih,Ii,reduceIte,Qu,h8,h7,this];refine w _ a (List.findIdx?_eq_none_iff.2 λb sa=>?_);obtain⟨i,hi,rfl⟩:=Q8 sa;have:=ca i O;rw[Qp hi]at this;simpa using QP this
 |succ n ih=>
  intro j z tg hn hj ca a h8 h7 r u;refine Ae (aHJ.eq_1 sz k) ?_;have ya:j<xs.length:=O
  have v:((j:Int)<xs.length):=O
  have qa:=nJ (j:=j);have p:xs[j]?=some xs[j]:=Qp ya;have x:rJ k xs[j]=true:=QA.1 o _ (Q6 ya);have xa:=aRe pa x;have l:=wJ (j:=j) O;obtain⟨ja,f,q⟩:=z;simp only at a h8 h7 r u;subst a;have hF:F c xs[j]=some (.bool (bs[j]' O)):=by
   have e:=congrArg (·[j]?) d;simp only[Q3,p,QX,Qp (show j<bs.length by omega)]at e;exact QP e
  have y:∀fr,(L3 F).ex (xs[j]::caps) f fr=some (.bool (bs[j]' O),[]):=by
   grind [L3]
  simp only[↓C2,Ih,Ii,simprocAttr,h8,h7,r,u,v,qa,Qq,p,xa,aDa x,AN hg,y];cases hbj:bs[j]' O with
  |true=>
   simp only[↓C2,Ih,simprocAttr];refine ma j _ rfl ?_ rfl;rw[List.findIdx?_eq_some_iff_getElem];refine⟨O,by simp[hbj],λi hi=>?_⟩;have:=ca i hi;rw[Qp O]at this;simp[QP this]
  |false=>
   simp only[↓C2,Ih,simprocAttr,h8,l];refine ih (j+1) _ _ O O (λi hi=>?_) rfl rfl h7 r u;rcases Nat.lt_or_eq_of_le (Nat.le_of_lt_succ hi)with hi|rfl
   ·exact ca i hi
   ·simp_all
def UP{ds:List D}{m m':Ig}(h:∀l∈fnR ds,m l.1 l.2=m' l.1 l.2){x:D}{g:FuncId}{caps:List D}(e:ds=[x,.fn g caps]):GW m caps=GW m' caps:=by
 subst e;exact S_ h
def OS{P:Program}{f g:FuncId}{sz:Nat}{k:Option Nat}{F:D->D->Option D}{N:Nat}(b:2<=N)(e:Fn P f N (dcI sz k) [.t 4])(pa:aPZ sz k)(w:(L3 F).ok P g):(GU g k F).ok P f:=by
 have hS:Ic.ok P (AB [(g,L3 F)]):=Aa w Ad;have sg:AB [(g,L3 F)] g=some (L3 F):=by simp[AB]
 generalize AB [(g,L3 F)]=S at hS sg;refine OM hS e (λds m m' fr h=>?_) (λds m fr r u y _=>?_)
 ·simp only[GU]at h ⊢;split
  ·rename_i nl t xs l caps;rw[UP h rfl]
  ·rfl
 ·simp only[GU]at y;split at y
  ·rename_i nl t xs l caps;split at y
   ·rename_i v;obtain⟨rfl,p,n⟩:=v;rw[QH]at y;obtain⟨c,s,y⟩:=y;rw[Qr]at y;obtain⟨bs,d,y⟩:=y;simp only[Qy]at y;obtain⟨rfl,rfl⟩:=y;refine⟨b,?_⟩;unfold dcI;simp only[↓C2,Ih,simprocAttr];refine aV9 (xs:=xs) (caps:=caps) (c:=c) (bs:=bs) (nl:=nl) (t:=t) (m:=m) pa sg p n s (Ol d) (λj z a q h2=>?_) (λz a q=>?_) xs.length 0 _ _ O O U rfl rfl rfl rfl rfl
    ·simp only[↓C2,Ih,Ii,h2,Bc,q,a];exact λi o x h=>h
    ·simp only[↓C2,Ih,Ii,reduceIte,Qu,Bc,q,a];exact λi o x h=>h
   ·cases y
  ·cases y
def rX{P:Program}{f h g:FuncId}{k:Option Nat}{F:D->D->Option D}{N:Nat}(b:2<=N)(a:Fn P f N (aHK h) [.t 4])(hi:(GU g k F).ok P h):(iO g k F).ok P f:=by
 have q:Ic.ok P (AB [(h,GU g k F)]):=Aa hi Ad;have w:AB [(h,GU g k F)] h=some (GU g k F):=by simp[AB]
 generalize AB [(h,GU g k F)]=S at q w;refine OM q a (λds m m' fr h=>?_) (λds m fr r u y _=>?_)
 ·simp only[iO]at h ⊢;split
  ·rename_i nl t xs l caps;rw[UP h rfl]
  ·rfl
 ·simp only[iO]at y;split at y
  ·rename_i nl t xs l caps;split at y
   ·rename_i v;rw[QH]at y;obtain⟨c,s,y⟩:=y;rw[Qr]at y;obtain⟨bs,d,y⟩:=y;simp only[Qy]at y;obtain⟨rfl,rfl⟩:=y;refine⟨b,?_⟩;have j:∀fr,(GU g k F).ex [.slice nl t xs,.fn l caps] m fr=some (.int .i64 (Bc bs),[]):=by
     grind [GU]
    unfold aHK;simp only[↓C2,Ih,Ii,simprocAttr,AN w,j];exact⟨by rw[←F8],λi o x h=>h⟩
   ·cases y
  ·cases y
def aN6:=y0 f204 [] []
def aN5:=y0 f205 [] []
def aPp:=y0 f103 [] []
def aPo:=y0 f104 [] []
def O1{S:Ic}{P:Program}{f:FuncId}{N:Nat}{p:DC}{rs:List RV}{F:D->D->Option D}(v:Ic.ok P S)(a:Fn P f N p rs)
  (b:∀x caps m fr c d,GW m caps=some c->F c x=some d->(∀k i o,(k::fr)<:+i->m i o=none)->caps.length<=1->(caps.length+1<=N)∧p.wp S fr (Ew rs λe m'=>e=d∧∀i o y,m i o=some y->m' i o=some y) ⟨BR (x::caps),m,0⟩):(L3 F).ok P f:=by
 refine OM v a (λds m m' fr h=>?_) (λds m fr r u z n=>?_)
 ·grind [L3,S_]
 ·simp only[L3]at z;split at z
  ·rename_i x caps;rw[QH]at z;obtain⟨c,s,z⟩:=z;rw[Qr]at z;obtain⟨d,l,z⟩:=z;simp only[Qy]at z;obtain⟨rfl,rfl⟩:=z;have w:caps.length<=1:=by
    unfold GW at s;split at s
    ·simp
    ·simp
    ·cases s
   obtain⟨q,t⟩:=b x caps m fr c d s l n w;exact⟨q,t⟩
  ·cases z
def SZ{m:Ig}{caps:List D}{p:Bs}(h:GW m caps=some (.str p)):∃i,caps=[.ptr i 0]∧m i 0=some (.str p):=by
 unfold GW at h;split at h
 ·cases h
 ·exact⟨_,rfl,h⟩
 ·cases h
def zW:D->D->Option D
 | .str p,.agg [.str q,.int .u8 _]=>some (.bool (decide (q=p)))
 |_,_=>none
def aET:D->D->Option D
 | .str p,.agg [.str q,.int .i64 _,.bool _]=>some (.bool (decide (q=p)))
 |_,_=>none
def zZ:D->D->Option D
 | .str p,.str q=>some (.bool (Ba p q||Ba q p))
 |_,_=>none
def aRl:(L3 zW).ok Qs 369:=by
 refine O1 (S:=λ_=>none) AI (Ai func369:Fn Qs 369 9 aMk [.t 3]) (λx caps m fr c d s g n w=>⟨O,?_⟩);unfold zW at g;split at g
 ·rename_i p q k;simp only[Qo]at g;subst g;obtain⟨i,rfl,z⟩:=SZ s;have hi:i≠0::fr:=by rintro rfl;have:=n 0 (0::fr) 0 (Zy _);rw[z]at this;cases this
  unfold aMk;simp only[↓C2,Iw,Ii,simprocAttr,z,hi,Ag,Qz,QK,Qt,and_self];intro i o y h;split
  ·grind
  ·exact h
 ·cases g
def aRp:(L3 aET).ok Qs 204:=by
 refine O1 (S:=λ_=>none) AI (Ai func204:Fn Qs 204 8 aN6 [.t 3]) (λx caps m fr c d s g n w=>⟨O,?_⟩);unfold aET at g;split at g
 ·rename_i p q k b;simp only[Qo]at g;subst g;obtain⟨i,rfl,z⟩:=SZ s;have hi:i≠0::fr:=by rintro rfl;have:=n 0 (0::fr) 0 (Zy _);rw[z]at this;cases this
  unfold aN6;simp only[↓C2,Iw,Ii,simprocAttr,z,hi,Ag,Qz,QK,Qt,and_self];intro i o y h;split
  ·grind
  ·exact h
 ·cases g
def aRo:(L3 zZ).ok Qs 205:=by
 obtain⟨S,v,w⟩:=A7 (Aa aLn Ad);have a:=w 206 _ rfl;clear w;refine O1 (S:=S) v (Ai func205:Fn Qs 205 12 aN5 [.t 3]) (λx caps m fr c d s g n w=>⟨O,?_⟩);unfold zZ at g;split at g
 ·rename_i p q;simp only[Qo]at g;subst g;obtain⟨i,rfl,z⟩:=SZ s;have k:∀p q,aAg [.str p,.str q]=some (.bool (Ba p q)):=λ_ _=>rfl
  unfold aN5;cases h1:Ba p q with
  |false=>simp only[↓C2,Ij,simprocAttr,z,Ab a,k,h1];simp
  |true=>simp only[↓C2,Ij,simprocAttr,z,Ab a,k,h1];simp
 ·cases g
def aXN:Fn Qs 203 19 (dcI 3 (some 3)) [.t 4]:=⟨f203,_,func203,rfl,Xa,rfl,Xa,Xa⟩
def aLZ:Fn Qs 297 19 (dcI 1 none) [.t 4]:=⟨f297,_,func297,rfl,Xa,rfl,Xa,Xa⟩
def aXK:Fn Qs 388 19 (dcI 1 none) [.t 4]:=⟨f388,_,func388,rfl,Xa,rfl,Xa,Xa⟩
def aL2:Fn Qs 192 9 (aHK 297) [.t 4]:=⟨f192,_,func192,rfl,Xa,rfl,Xa,Xa⟩
def aXL:Fn Qs 343 9 (aHK 388) [.t 4]:=⟨f343,_,func343,rfl,Xa,rfl,Xa,Xa⟩
def aQ3:(GU 369 (some 2) zW).ok Qs 399:=OS O (Ai func399:Fn Qs 399 19 aYs [.t 4]) rfl aRl
def aYQ:(iO 369 (some 2) zW).ok Qs 368:=rX O (Ai func368:Fn Qs 368 9 aYu [.t 4]) aQ3
def aQ7:(GU 204 (some 3) aET).ok Qs 203:=OS O aXN rfl aRp
def aQ6:(GU 205 none zZ).ok Qs 297:=OS O aLZ rfl aRo
def aYS:(iO 205 none zZ).ok Qs 192:=rX O aL2 aQ6
abbrev Rl:=Bs×Int
def iM(r:Rl):D:= .agg [.str r.1,.int .u8 r.2]
def Aj(l:List Rl):List D:=l.map iM
def rlT:D->Rl
 | .agg [.str q,.int .u8 k]=>(q,k)
 |_=>([],0)
def Br(xs:List D):List Rl:=xs.map rlT
theorem A_(l:List Rl):Br (Aj l)=l:=by
 simp only[Br,Aj,QY]
 conv=>rhs;rw[←ZY l]
 exact QR λr _=>rfl
def BL(l:List Rl)(j:Nat):Rl:=l.getD j ([],0)
theorem Aw(l:List Rl):(Aj l).length=l.length:=Qw ..
def Ek{l:List Rl}{j:Nat}(h:j<l.length):(Aj l)[j]?=some (iM (BL l j)):=by
 grind [Aj,BL]
def Mi(l:List Rl)(j:Nat):(Aj l).take j=Aj (l.take j):=(List.map_take ..).symm
def aBe(l:List Rl):(Aj l).all (rJ (some 2))=true:=by
 rw[QA];intro x p;obtain⟨r,_,rfl⟩:=QV.1 p;rfl
def OK(l:List Rl):aE (Aj l) 2=2:=Xq
def He(l:List Rl)(q:Bs):Bool:=l.any λr=>decide (r.1=q)
def Hi(r:Rl)(l:List Rl):Int:=if r.1≠[]∧Bf r.1≠0 then Bf r.1 else if 63<r.2 then 2 else if He l r.1=true then 20 else 0
def DN(l:List Rl):Nat->Nat->Int
 |0,_=>0
 |f+1,j=>if j<l.length then(if Hi (BL l j) (l.take j)≠0 then Hi (BL l j) (l.take j)else DN l f (j+1))else 0
def CT(l:List Rl):Int:=if 4<l.length then 24 else DN l l.length 0
def Ca(l:List Rl):Prop:=∀r∈l,r.1.length<=1000000
def Lu{l:List Rl}(h:Ca l){j:Nat}(y:j<l.length):(BL l j).1.length<=1000000:=by
 have:BL l j=l[j]:=by simp[BL,Qp y]
 rw[this];exact h _ (Q6 y)
def Ee(bs:List Bool):GJ (bs.map λb=>some (.bool b))=some bs:=by
 induction bs with
 |nil=>rfl
 |cons b r ih=>simp only[Zk,GJ,ih,QX]
def aDM{l:List Rl}{nl:Bool}{t:Id}(w:l.length<=1000000){q:Bs}(m:Ig)(fr i:Id)(z:m i 0=some (.str q)):
  (iO 369 (some 2) zW).ex [.slice nl t (Aj l),.fn 369 [.ptr i 0]] m fr=some (.bool (He l q),[]):=by
 have e:(Aj l).map (zW (.str q))=(l.map λr=>decide (r.1=q)).map λb=>some (.bool b):=by
  simp only[Aj,QY];exact QR λr _=>rfl
 simp only[iO,Aw,w,aBe,and_self,if_true,GW,z,QM,e,Ee,QX];simp only[He,ZU];rfl
open Classical in
def aFd:List D->Option D
 |[.agg [.str q,.int .u8 k],.slice _ _ xs]=>if xs=Aj (Br xs)∧xs.length<=1000000∧q.length<=1000000 then some (.int .i64 (Hi (q,k) (Br xs)))else none
 |_=>none
def aUC:Kq aFd 314:=by
 obtain⟨S,v,w⟩:=A7 (Aa qE (Aa aYQ Ad));have f:=w 201 _ rfl;have b:=w 368 _ rfl;clear w;refine AD (S:=S) v (Ai func314:Fn Qs 314 21 aMP [.t 4]) (λds r h=>?_) (λds r h=>?_)
 ·unfold aFd at h;split at h
  ·simp
  ·cases h
 ·unfold aFd at h;split at h
  ·rename_i q k nl t xs;split at h
   ·rename_i x;obtain⟨p,u,s⟩:=x;simp only[Qo]at h;subst h;generalize Br xs=l at p;subst p;rw[Aw]at u;have a:iJ [.str q]=some (.int .i64 (Bf q)):=if_pos s;unfold aMP Hi;generalize Bf q=e at *;simp only[↓C2,Iw,simprocAttr,Ag,Qz,QK,Qt,and_self]
    repeat' (first|(refine aD (λh=>?_) (λh=>?_)<;>try (exfalso;omega))|(simp only[↓C2,Is,simprocAttr,h,Ag,Ab f,a,AN b,aDM (q:=q) u]))
    all_goals (first|rfl|(rw[D.int.injEq];refine⟨rfl,?_⟩;(repeat' split)<;>first|rfl|(exfalso;simp_all;done)|(exfalso;simp_all;omega)))
   ·cases h
  ·cases h
open Classical in
def aKb{q:Bs}{k:Int}{nl:Bool}{t:Id}{l:List Rl}(w:l.length<=1000000)(s:q.length<=1000000):aFd [.agg [.str q,.int .u8 k],.slice nl t (Aj l)]=some (.int .i64 (Hi (q,k) l)):=by
 have h:Aj l=Aj (Br (Aj l))∧(Aj l).length<=1000000∧q.length<=1000000:=⟨by rw[A_],by rw[Aw];exact w,s⟩;show(if _ then _ else _)=_;rw[if_pos h,A_]
def aG6{S:Ic}{ns:Id}{l:List Rl}{nl:Bool}{t:Id}{Q:Ex->St->Prop}{e:Int}(a:S 314=some (Af aFd))(i:l.length<=4)(hp:Ca l)
  (c:∀z,e≠0->z.s 2= .int .i64 e->Q .ret z) (w:∀z,e=0->Q (.exit 0) z):
  ∀(f j:Nat) z g,l.length=j+f->DN l f j=e->z.s 0= .slice nl t (Aj l)->z.s 9= .slice nl t (Aj l)->z.s 10= .int .i64 (l.length:Int)->z.s 11= .int .i64 (j:Int)->A2 S ns Rr Q z g:=by
 intro f;induction f with
 |zero=>
  intro j z g hf x m p la y;refine Ae Rr.eq_1 ?_;have:¬((j:Int)<l.length):=O
  simp only[↓C2,Ih,Ii,reduceIte,Qu,la,y,this];exact w _ x.symm
 |succ f ih=>
  intro j z g hf x m p la y;refine Ae Rr.eq_1 ?_;unfold DN at x;have hj:j<l.length:=O
  rw[if_pos hj]at x;have v:((j:Int)<l.length):=O
  have n:=nJ (j:=j);have ya:((j:Int)<=l.length):=O
  have hw:=wJ (j:=j) O;have d:=Ek hj;have hq:=Lu hp hj;generalize hr:BL l j=r at x d hq;obtain⟨q,k⟩:=r;have b:(Aj l)[j]?=some (.agg [.str q,.int .u8 k]):=d;have hF:=aKb (nl:=nl) (t:=[]) (l:=l.take j) (q:=q) (k:=k) Xc hq;generalize Hi (q,k) (l.take j)=e' at x hF;obtain⟨ja,u,o⟩:=z;simp only at m p la y;simp only[↓C2,Is,simprocAttr,m,p,la,y,v,n,ya,Qq,b,Aw,OK,Mi,Ab a,hF,Ag,Ao,Ap,QM,Q9,Zs,Zt,QB];refine Al ?_;simp only[↓C2,Ih,IM,simprocAttr,Mi,QB];refine aD (λh=>?_) (λh=>?_)
  ·rw[if_neg Xl]at x;simp only[↓C2,Ih,IM,simprocAttr,y,Mi,QB,hw];exact ih (j+1) _ _ O x m p la rfl
  ·rw[if_pos h]at x;simp only[↓C2,Ih,IM,simprocAttr,Mi,QB];exact c _ (x▸h) (by rw[←x];rfl)
open Classical in
def aAa:List D->Option D
 |[.slice _ _ xs]=>if xs=Aj (Br xs)∧xs.length<=1000000∧Ca (Br xs)then some (.int .i64 (CT (Br xs)))else none
 |_=>none
open Classical in
def MA{nl:Bool}{t:Id}{l:List Rl}(w:l.length<=1000000)(g:Ca l):aAa [.slice nl t (Aj l)]=some (.int .i64 (CT l)):=by
 have h:Aj l=Aj (Br (Aj l))∧(Aj l).length<=1000000∧Ca (Br (Aj l)):=by rw[A_,Aw];exact⟨rfl,w,g⟩
 show(if _ then _ else _)=_;rw[if_pos h,A_]
open Classical in
theorem Ox{ds:List D}{r:D}(h:aAa ds=some r):∃nl t l,ds=[.slice nl t (Aj l)]∧l.length<=1000000∧Ca l∧r= .int .i64 (CT l):=by
 unfold aAa at h;split at h
 ·rename_i nl t xs;split at h
  ·rename_i k;obtain⟨u,q,o⟩:=k;simp only[Qo]at h;subst h;refine⟨nl,t,Br xs,XJ,?_,o,rfl⟩;rw[u,Aw]at q;exact q
  ·cases h
 ·cases h
def qC:Kq aAa 214:=by
 obtain⟨S,v,w⟩:=A7 (Aa aUC Ad);have a:=w 314 _ rfl;clear w;refine AD (S:=S) v (Ai func214:Fn Qs 214 25 aNX [.t 2]) (λds r h=>?_) (λds r h=>?_)
 ·grind [Ox]
 ·obtain⟨nl,t,l,rfl,w,g,rfl⟩:=Ox h;unfold aNX CT;by_cases b:4<l.length
  ·have n:((4:Int)<l.length):=by omega
   simp only[↓C2,Ij,simprocAttr,Aw,n,b]
  ·have n:¬((4:Int)<l.length):=by omega
   simp only[↓C2,Ih,Ii,simprocAttr,Aw,n];refine aG6 (l:=l) (nl:=nl) (t:=t) (e:=DN l l.length 0) a O g (λz u q=>?_) (λz u=>?_) l.length 0 _ _ O rfl rfl rfl rfl rfl
   ·simp only[↓C2,Ij,q];rw[if_neg b]
   ·simp only[↓C2,Ij,reduceIte,Qu,u];rw[if_neg b]
def PJ(l:List Rl)(q:Bs){i:Nat}(hi:i<l.length):He (l.take (i+1)) q=(He (l.take i) q||decide ((BL l i).1=q)):=by
 have e:BL l i=l[i]:=by simp[BL,Qp hi]
 unfold He;rw[Zi hi,List.any_append,e];simp
def Tm(l:List Rl)(q:Bs){i j:Nat}(h:i<=j)(m:He (l.take i) q=true):He (l.take j) q=true:=by
 unfold He at *;rw[List.any_eq_true]at *;obtain⟨x,p,f⟩:=m;exact⟨x,(List.take_subset_take_left l h) p,f⟩
def aCg{S:Ic}{ns:Id}{l:List Rl}{nl:Bool}{t:Id}{Q:Ex->St->Prop}{i:Nat}{q:Bs}(p:l.length<=4)(hi:i<l.length)(hq:(BL l i).1=q)
  (c:∀z,He (l.take i) q=true->z.s 2= .int .i64 20->Q .ret z) (e:∀z,He (l.take i) q=false->z.s 0= .slice nl t (Aj l)->z.s 3= .int .i64 (i:Int)->Q (.exit 2) z):
  ∀(f j:Nat) z g,i=j+f->He (l.take j) q=false->z.s 0= .slice nl t (Aj l)->z.s 3= .int .i64 (i:Int)->z.s 4= .int .i64 (j:Int)->A2 S ns Rp Q z g:=by
 intro f;induction f with
 |zero=>
  intro j z g k x m o b;refine Ae Rp.eq_1 ?_;have:¬((j:Int)<i):=O
  simp only[↓C2,Ih,Ii,simprocAttr,o,b,this];exact e _ (by rw[show i=j by omega];exact x) m o
 |succ f ih=>
  intro j z g k x m o b;refine Ae Rp.eq_1 ?_;have v:((j:Int)<i):=O
  have n:=nJ (j:=j);have va:(0:Int)<=(i:Int):=O
  have hw:=wJ (j:=j) O;have d:(Aj l)[j]?=some (.agg [.str (BL l j).1,.int .u8 (BL l j).2]):=Ek O;have a:(Aj l)[i]?=some (.agg [.str q,.int .u8 (BL l i).2]):=by rw[←hq];exact Ek hi
  have hu:=PJ l q (show j<l.length by omega);rw[x,Bool.false_or]at hu;generalize BL l j=r at d hu;obtain⟨ja,u,fa⟩:=z;simp only at m o b;simp only[↓C2,Iw,Ii,simprocAttr,m,o,b,v,n,va,Qq,d,a,Qz,QB,QE];refine Al ?_;simp only[↓C2,Ih,IM,reduceIte,Qv];refine aD (λh=>?_) (λh=>?_)
  ·simp only[↓C2,Ih,IM,Qu];exact c _ (Tm l q (show j+1<=i by omega) (by rw[hu];simpa using h)) rfl
  ·simp only[↓C2,Ih,IM,simprocAttr,b,hw];exact ih (j+1) _ _ O (by rw[hu];simpa using h) m o rfl
def aG4{S:Ic}{ns:Id}{l:List Rl}{nl:Bool}{t:Id}{Q:Ex->St->Prop}{e:Int}(x:S 211=some (Af TN))(p:l.length<=4)(hp:Ca l)
  (c:∀z,e≠0->z.s 2= .int .i64 e->Q .ret z) (w:∀z,e=0->Q (.exit 0) z):
  ∀(f i:Nat) z g,l.length=i+f->DN l f i=e->z.s 0= .slice nl t (Aj l)->z.s 3= .int .i64 (i:Int)->A2 S ns Ro Q z g:=by
 intro f;induction f with
 |zero=>
  intro i z g hf j m o;refine Ae Ro.eq_1 ?_;have:¬((i:Int)<l.length):=O
  simp only[↓C2,Ih,Ii,simprocAttr,m,o,this,Aw];exact w _ j.symm
 |succ f ih=>
  intro i z g hf j m o;refine Ae Ro.eq_1 ?_;unfold DN at j;have hi:i<l.length:=O
  rw[if_pos hi]at j;have aa:((i:Int)<l.length):=O
  have va:(0:Int)<=(i:Int):=O
  have hw:IntKind.i64.wrap ((i:Int)+1)=((i+1:Nat):Int):=Iz O O;have d:=Ek hi;have hq:=Lu hp hi;generalize y:BL l i=r at j d hq;obtain⟨q,k⟩:=r;replace d:(Aj l)[i]?=some (.agg [.str q,.int .u8 k]):=d;have hF:TN [.str q]=some (.int .i64 (Bf q)):=if_pos hq;unfold Hi at j;generalize Bf q=n at j hF;obtain⟨ja,da,b⟩:=z;simp only at m o;have a:∀z (v:Int),z.s 2= .int .i64 v->v=e->v≠0->Q .ret z:=λz v u h2 o=>c z (h2▸o) (h2▸u)
  simp only at j;simp only[↓C2,Iw,Ii,simprocAttr,m,o,aa,va,Qq,d,Aw,Qz,QB,QE]
  repeat' (first|(refine aD (λh=>?_) (λh=>?_)<;>try (exfalso;omega))|(simp only[↓C2,Iw,Ii,simprocAttr,h,m,o,va,Qq,d,Ab x,hF,Qz,QB,Za,QE]))
  all_goals (try (refine a _ _ rfl ?_ ?_<;>first|omega|(simp_all;done)))
  all_goals (refine aCg (l:=l) (nl:=nl) (t:=t) (i:=i) (q:=q) p hi (by rw[y]) (λz u h2=>?_) (λz u h2 o=>?_) i 0 _ _ O (by simp[He]) m o rfl)
  all_goals (first|(simp only[↓C2,Ih,simprocAttr];refine a _ _ h2 (by simp_all) Z)|(simp only[↓C2,Ih,simprocAttr,o,hw];exact ih (i+1) _ _ O (by simp_all) h2 rfl))
def qB:Kq aAa 218:=by
 obtain⟨S,v,w⟩:=A7 (Aa qD Ad);have x:=w 211 _ rfl;clear w;refine AD (S:=S) v (Ai func218:Fn Qs 218 57 aNU [.t 2]) (λds r h=>?_) (λds r h=>?_)
 ·grind [Ox]
 ·obtain⟨nl,t,l,rfl,w,g,rfl⟩:=Ox h;unfold aNU CT;by_cases b:4<l.length
  ·have n:((4:Int)<l.length):=by omega
   simp only[↓C2,Ij,simprocAttr,Aw,n,b]
  ·have n:¬((4:Int)<l.length):=by omega
   simp only[↓C2,Ih,Ii,simprocAttr,Aw,n];refine aG4 (l:=l) (nl:=nl) (t:=t) (e:=DN l l.length 0) x O g (λz u q=>?_) (λz u=>?_) l.length 0 _ _ O rfl rfl rfl
   ·simp only[↓C2,Ij,q];rw[if_neg b]
   ·simp only[↓C2,Ij,reduceIte,Qu,u];rw[if_neg b]
def bU{k:IntKind}{a b:Int}:AJ .andNot (.int k a) (.int k b)=some (.int k (bits .andNot k a b)):=Xj
def lI:Nat->Nat->Nat->Bool
 |0,_,_=>true
 |f+1,a,c=>if c % 2=1∧a % 2=0 then false else lI f (a / 2) (c / 2)
def UL:∀(f a c:Nat),lI f a c=true↔∀i,i<f->c.testBit i=true->a.testBit i=true
 |0,a,c=>by simp[lI]
 |f+1,a,c=>by
  have ih:=UL f (a / 2) (c / 2);have r:∀n:Nat,n.testBit 0=decide (n % 2=1):=λn=>Nat.testBit_zero n
  unfold lI;by_cases h:c % 2=1∧a % 2=0
  ·rw[if_pos h];constructor
   ·intro h;cases h
   ·intro u;have q:=u 0 O (by rw[r];simp[h.1]);rw[r,decide_eq_true_iff]at q;omega
  ·rw[if_neg h,ih];constructor
   ·intro u i hi q;cases i with
    |zero=>
     rw[r,decide_eq_true_iff]at q ⊢;omega
    |succ i=>
     rw[Nat.testBit_succ]at q ⊢;exact u i O q
   ·grind
def N9(a c:Nat):Bool:=Nat.beq (Zj c (255-a)) 0
def aHD{a c:Nat}(x:a<256)(k:c<256):lI 8 a c=N9 a c:=by
 rw[Q1,UL];have e:∀i,(Zj c (255-a)).testBit i=(c.testBit i&&(decide (i<8)&&!a.testBit i)):=by
  intro i;show(c&&& (255-a)).testBit i=_;rw[Nat.testBit_and,show 255-a=2 ^ 8-(a+1)by omega,Nat.testBit_two_pow_sub_succ O]
 constructor
 ·intro h;unfold N9;have:Zj c (255-a)=0:=by
   refine Nat.eq_of_testBit_eq λi=>?_
   rw[e,ZN];by_cases hi:i<8
   ·simp_all
   ·simp[hi]
  rw[this];rfl
 ·intro h i hi u;have q:Zj c (255-a)=0:=Nat.eq_of_beq_eq_true h;have o:=e i;rw[q,ZN,u]at o;simpa[hi]using o.symm
def aTY{x:Nat}(h:x<256):IntKind.u8.wrap (x:Int)=x:=by
 simp only[IntKind.wrap,IntKind.signed,IntKind.bits,Zh,QZ,if_false];omega
def S5{a c:Nat}(n:a<256)(k:c<256):bits .andNot .u8 (c:Int) (a:Int)=((Zj c (255-a):Nat):Int):=by
 have u:(BitVec.ofInt 8 (c:Int)).toNat=c:=by rw[BitVec.toNat_ofInt];omega
 have q:(BitVec.ofInt 8 (a:Int)).toNat=a:=by rw[BitVec.toNat_ofInt];omega
 have o:(BitVec.ofInt 8 (c:Int)&&& ~~~ BitVec.ofInt 8 (a:Int)).toNat=Zj c (255-a):=by
  rw[BitVec.toNat_and,BitVec.toNat_not,u,q];rfl
 have b:Zj c (255-a)<=c:=Nat.and_le_left;show IntKind.u8.wrap ((BitVec.ofInt 8 (c:Int)&&& ~~~ BitVec.ofInt 8 (a:Int)).toNat:Int)=_;rw[o];generalize Zj c (255-a)=x at b;exact aTY O
def aAE{a:Nat}(q:a<256):IntKind.u8.wrap ((a:Int).tdiv 2)=((a / 2:Nat):Int):=by
 rw[show(a:Int).tdiv 2=((a / 2:Nat):Int)by rw[Int.natCast_ediv];exact Zu O];exact aTY O
def VG{a:Nat}:(a:Int).tmod 2=((a % 2:Nat):Int):=rfl
def aG3{S:Ic}{ns:Id}{Q:Ex->St->Prop}{e:Bool}
  (ma:∀z,e=false->z.s 4= .bool false->Q .ret z) (w:∀z,e=true->Q (.exit 0) z):
  ∀(f i a c:Nat) z g,8=i+f->a<256->c<256->lI f a c=e->z.s 0= .int .u8 (a:Int)->z.s 1= .int .u8 (c:Int)->z.s 5= .int .i64 (i:Int)->A2 S ns Rn Q z g:=by
 intro f;induction f with
 |zero=>
  intro i a c z g hf q k x r u m;refine Ae Rn.eq_1 ?_;have:¬((i:Int)<8):=O
  simp only[↓C2,Ih,Ii,simprocAttr,m,this];exact w _ x.symm
 |succ f ih=>
  intro i a c z g hf q k x r u m;refine Ae Rn.eq_1 ?_;unfold lI at x;have v:((i:Int)<8):=O
  have l:IntKind.i64.wrap ((i:Int)+1)=((i+1:Nat):Int):=Iz O O;have n2:((2:Int)=0)=False:=U
  have ua:=aAE q;have b:=aAE k;obtain⟨ja,t,o⟩:=z;simp only at r u m;by_cases p:c % 2=1
  ·have d:(((c % 2:Nat):Int)=1)=True:=eq_true O;by_cases j:a % 2=0
   ·have n:(((a % 2:Nat):Int)=0)=True:=eq_true O;rw[if_pos ⟨p,j⟩]at x;simp only[↓C2,Ih,Ii,simprocAttr,r,u,m,v,VG,d,n,n2,ne_eq];exact ma _ x.symm rfl
   ·have n:(((a % 2:Nat):Int)=0)=False:=eq_false O;rw[if_neg (λh=>j h.2)]at x;simp only[↓C2,Ih,Ii,simprocAttr,r,u,m,v,l,VG,d,n,n2,ua,b,ne_eq];exact ih (i+1) _ _ _ _ O O O x rfl rfl rfl
  ·have d:(((c % 2:Nat):Int)=1)=False:=eq_false O;rw[if_neg (λh=>p h.1)]at x;simp only[↓C2,Ih,Ii,simprocAttr,r,u,m,v,l,VG,d,n2,ua,b,ne_eq];exact ih (i+1) _ _ _ _ O O O x rfl rfl rfl
def aFj:List D->Option D
 |[.int .u8 a,.int .u8 c]=>if 0<=a∧a<256∧0<=c∧c<256 then some (.bool (N9 a.toNat c.toNat))else none
 |_=>none
def aLl:Kq aFj 219:=by
 refine AD (S:=λ_=>none) AI (Ai func219:Fn Qs 219 22 aNT [.t 4]) (λds r h=>?_) (λds r h=>?_)
 ·unfold aFj at h;split at h
  ·simp
  ·cases h
 ·unfold aFj at h;split at h
  ·rename_i a c;split at h
   ·rename_i k;obtain⟨u,q,o,b⟩:=k;simp only[Qo]at h;subst h;obtain⟨a,rfl⟩:=QD u;obtain⟨c,rfl⟩:=QD o;simp only[Qq];have x:a<256:=by omega
    have k:c<256:=O
    unfold aNT;simp only[↓C2,Ih,Qu];refine aG3 (e:=N9 a c) (λz u q=>?_) (λz u=>?_) 8 0 a c _ _ O x k (aHD x k) rfl rfl rfl
    ·simp only[↓C2,Ij,u,q]
    ·simp only[↓C2,Ij,reduceIte,Qu,u]
   ·cases h
  ·cases h
structure RI (fr r:Id) (m0 m:Ig) (l:List Bs) (j:Nat):Prop where
 row:∀i,i<l.length->m r i=some (.str (if i<j then l.getD i []else []))
 out:∀i o,¬fr<:+i->m i o=m0 i o
def RI.put{fr r:Id}{m0 m:Ig}{l:List Bs}{j k o:Nat}{ds:List D}(h:RI fr r m0 m l j)(g:(k::fr)≠r):RI fr r m0 (m.put (k::fr) o ds) l j:=by
 refine⟨λi hi=>?_,λi o' f=>?_⟩
 ·rw[aA (λe=>g e.symm)];exact h.row i hi
 ·rw[aA (λe=>f Yy)];exact h.out i o' f
def RI.fill{fr r:Id}{m0 m:Ig}{l:List Bs}{j:Nat}(h:RI fr r m0 m l j)(y:fr<:+r):RI fr r m0 (m.put r j [.str (l.getD j [])]) l (j+1):=by
 refine⟨λi hi=>?_,λi o' f=>?_⟩
 ·rw[Ag];by_cases e:i=j
  ·simp_all
  ·rw[if_neg Xc,h.row i hi];by_cases q:i<j
   ·rw[if_pos q,if_pos O]
   ·rw[if_neg q,if_neg O]
 ·rw[aA (λe=>f (by rw[e];exact y))];exact h.out i o' f
theorem RI.start{fr:Id}{m:Ig}{l:List Bs}{k n:Nat}(f:n=l.length):RI fr (k::fr) m (m.put (k::fr) 0 (Ze n (.str []))) l 0:=by
 subst f;refine⟨λi hi=>?_,λi o f=>aA (λe=>f Yy)⟩;rw[Ag,if_pos ⟨rfl,O,by simp;exact hi⟩,if_neg O];simp[hi]
def RI.fin{fr r:Id}{m0 m:Ig}{l:List Bs}(h:RI fr r m0 m l l.length)(k:∀i o,fr<:+i->m0 i o=none):
  (∀(j:Nat) x,(l.map D.str)[j]?=some x->m r j=some x)∧∀i o x,m0 i o=some x->m i o=some x:=by
 refine⟨λj x p=>?_,λi o x p=>?_⟩
 ·have y:j<l.length:=by have:=(QI.1 p).1;simpa using this
  rw[h.row j y,if_pos y];simp[y]at p;simp[y,p]
 ·rw[h.out i o (λs=>by rw[k i o s]at p;cases p)];exact p
def Vq(F:List D->Option (List Bs)):IS where
 rd:=λ_ _=>[]
 ex:=λds _ _=>(F ds).map λl=>(.slice false [] (l.map .str),[])
def pR{S:Ic}{P:Program}{f:FuncId}{N:Nat}{g:DC}{rs:List RV}{F:List D->Option (List Bs)}(v:Ic.ok P S)(hf:Fn P f N g rs)
  (bb:∀ds l m fr,F ds=some l->(∀i o,fr<:+i->m i o=none)->ds.length<=N∧g.wp S fr (Ew rs λd m'=>∃i,d= .row i l.length∧fr<:+i∧RI fr i m m' l l.length) ⟨BR ds,m,0⟩):(Vq F).ok P f:=by
 refine aGA v hf (λ_ _ _ _ _=>rfl) (λds m fr r u y n=>?_);simp only[Vq,Qr,Qy]at y;obtain⟨l,w,rfl,rfl⟩:=y;obtain⟨q,t⟩:=bb ds l m fr w n;refine⟨q,U,l.map .str,rfl,?_,?_⟩
 ·intro x p;obtain⟨s,_,rfl⟩:=QV.1 p;exact⟨rfl,rfl⟩
 ·refine NK t (λe la h=>?_);obtain⟨a,d,k,i,b,j,z⟩:=h;exact⟨a,d,k,i,XT,j,(z.fin n).1,λi o x p=>(z.fin n).2 i o x p⟩
open Classical in
def aFm:List D->Option (List Bs)
 |[.slice _ _ xs]=>if xs=Aj (Br xs)∧xs.length<=1000000 then some ((Br xs).map (·.1))else none
 |_=>none
open Classical in
theorem aKt{nl:Bool}{t:Id}{l:List Rl}(w:l.length<=1000000):aFm [.slice nl t (Aj l)]=some (l.map (·.1)):=by
 have h:Aj l=Aj (Br (Aj l))∧(Aj l).length<=1000000:=by rw[A_,Aw];exact⟨rfl,w⟩
 show(if _ then _ else _)=_;rw[if_pos h,A_]
open Classical in
def aFl{ds:List D}{r:List Bs}(h:aFm ds=some r):∃nl t l,ds=[.slice nl t (Aj l)]∧l.length<=1000000∧r=l.map (·.1):=by
 unfold aFm at h;split at h
 ·rename_i nl t xs;split at h
  ·rename_i k;obtain⟨u,q⟩:=k;simp only[Qo]at h;subst h;refine⟨nl,t,Br xs,XJ,?_,rfl⟩;rw[u,Aw]at q;exact q
  ·cases h
 ·cases h
def aHa{S:Ic}{fr:Id}{l:List Rl}{nl:Bool}{t:Id}{m0:Ig}{k:Nat}{Q:Ex->St->Prop}(i:l.length<=1000000)
  (e:∀z,z.s 3= .row (k::fr) l.length->RI fr (k::fr) m0 z.m (l.map (·.1)) l.length->Q (.exit 0) z):
  ∀(f j:Nat) z g,l.length=j+f->k<z.c->z.s 3= .row (k::fr) l.length->z.s 9= .slice nl t (Aj l)->z.s 10= .int .i64 (l.length:Int)->z.s 11= .int .i64 (j:Int)->RI fr (k::fr) m0 z.m (l.map (·.1)) j->A2 S fr Rv Q z g:=by
 intro f;induction f with
 |zero=>
  intro j z g a x o p la y I;refine Ae Rv.eq_1 ?_;have:¬((j:Int)<l.length):=O
  simp only[↓C2,Ih,Ii,reduceIte,Qu,la,y,this];exact e _ o Ya
 |succ f ih=>
  intro j z g a x o p la y I;refine Ae Rv.eq_1 ?_;have hj:j<l.length:=O
  have v:((j:Int)<l.length):=O
  have qa:=nJ (j:=j);have h:=wJ (j:=j) O;have d:(Aj l)[j]?=some (.agg [.str (BL l j).1,.int .u8 (BL l j).2]):=Ek hj;have w:(l.map (·.1)).getD j []=(BL l j).1:=by simp[BL,Qp hj]
  generalize BL l j=r at d w;have oa:((z.c+1+3)::fr=k::fr)=False:=eq_false Xc;have n:(k::fr=(z.c+1+3)::fr)=False:=eq_false Xc;have q:=I.row j XR;rw[if_neg O]at q;obtain⟨ja,u,b⟩:=z;simp only at o p la y x oa n q I;simp only[↓C2,Is,reduceIte,Qv,Qu,o,p,la,y,v,qa,h,Qq,d,n,q,QF,false_and,Ag,Ao,Ap,Q7,QM,Q9,Zs,Zt];refine ih (j+1) _ _ O Xb o p la rfl ?_;rw[←w];exact((I.put Xc).put Xc).fill (QS _ _)
def aVa:(Vq aFm).ok Qs 199:=by
 refine pR (S:=λ_=>none) AI (Ai func199:Fn Qs 199 23 aOa [.t 2]) (λds r m fr h n=>?_);obtain⟨nl,t,l,rfl,w,rfl⟩:=aFl h;refine⟨U,?_⟩;have v:((0:Int)<=(l.length:Int)):=O
 have s:((l.length:Int)*(((16:Nat):Int)+1)<=140737488355328)=True:=eq_true O;unfold aOa;simp only[↓C2,Iw,reduceIte,Qv,Qu,v,s,Aw,Qq,ZZ,and_self];refine aHa (l:=l) (nl:=nl) (t:=t) (m0:=m) (k:=3) w (λz u q=>?_) l.length 0 _ _ O Xb rfl rfl rfl rfl ?_
 ·simp only[↓C2,Ih,reduceIte,Qv,Qu,u,Qw];exact⟨_,rfl,QS _ _,q⟩
 ·exact RI.start U
def MU(s:Bs)(l:List Bs):Nat->Nat->Int->Int->Int
 |0,_,b,_=>b
 |f+1,j,b,n=>if n<((l.getD j []).length:Int)∧Ba s (l.getD j [])=true then MU s l f (j+1) j (l.getD j []).length else MU s l f (j+1) b n
def FW(s:Bs)(l:List Bs):Int:=MU s l l.length 0 (-1) (-1)
def aHb{S:Ic}{ns:Id}{s:Bs}{l:List Bs}{nl:Bool}{t:Id}{Q:Ex->St->Prop}{e:Int}(a:S 206=some (Af aAg))(i:l.length<=1000000)
  (w:∀z,z.s 5= .int .i64 e->Q (.exit 0) z):
  ∀(f j:Nat)(b n:Int) z g,l.length=j+f->MU s l f j b n=e->z.s 0= .str s->z.s 5= .int .i64 b->z.s 6= .int .i64 n->z.s 9= .slice nl t (l.map .str)->z.s 10= .int .i64 (l.length:Int)->z.s 11= .int .i64 (j:Int)->A2 S ns Rx Q z g:=by
 intro f;induction f with
 |zero=>
  intro j b n z g hf x r m q h9 la y;refine Ae Rx.eq_1 ?_;have:¬((j:Int)<l.length):=O
  simp only[↓C2,Ih,Ii,reduceIte,Qu,la,y,this];exact w _ (by rw[←x];exact m)
 |succ f ih=>
  intro j b n z g hf x r m q h9 la y;refine Ae Rx.eq_1 ?_;unfold MU at x;have hj:j<l.length:=O
  have v:((j:Int)<l.length):=O
  have qa:=nJ (j:=j);have hw:=wJ (j:=j) O;have d:(l.map D.str)[j]?=some (.str (l.getD j [])):=by simp[hj]
  generalize l.getD j []=p at d x;have k:aAg [.str s,.str p]=some (.bool (Ba s p)):=rfl;obtain⟨ja,u,o⟩:=z;simp only at r m q h9 la y;by_cases c:n<(p.length:Int)
  ·cases hp:Ba s p with
   |true=>
    rw[if_pos ⟨c,hp⟩]at x;simp only[↓C2,Iw,Ii,simprocAttr,r,h9,la,y,q,v,qa,hw,Qq,d,Ab a,k,QE,c,hp];exact ih (j+1) _ _ _ _ O x r rfl rfl h9 la rfl
   |false=>
    rw[if_neg (by rw[hp];simp)]at x;simp only[↓C2,Iw,Ii,simprocAttr,r,h9,la,y,q,v,qa,hw,Qq,d,Ab a,k,QE,c,hp];exact ih (j+1) _ _ _ _ O x r m q h9 la rfl
  ·rw[if_neg (λh=>c h.1)]at x;simp only[↓C2,Iw,Ii,simprocAttr,h9,la,y,q,v,qa,hw,Qq,d,QE,c];exact ih (j+1) _ _ _ _ O x r m q h9 la rfl
def aAi:List D->Option D
 |[.str s,.slice _ _ xs]=>(HM xs).bind λl=>if l.length<=1000000 then some (.int .i64 (FW s l))else none
 |_=>none
def aKu{s:Bs}{nl:Bool}{t:Id}{l:List Bs}(w:l.length<=1000000):aAi [.str s,.slice nl t (l.map .str)]=some (.int .i64 (FW s l)):=by
 grind [aAi,HJ]
def aVb:Kq aAi 198:=by
 obtain⟨S,v,w⟩:=A7 (Aa aLn Ad);have a:=w 206 _ rfl;clear w;refine AD (S:=S) v (Ai func198:Fn Qs 198 30 aOb [.t 4]) (λds r h=>?_) (λds r h=>?_)
 ·unfold aAi at h;split at h
  ·simp
  ·cases h
 ·unfold aAi at h;split at h
  ·rename_i s nl t xs;rw[QH]at h;obtain⟨l,j,h⟩:=h;obtain rfl:=Gp j;split at h
   ·rename_i w;simp only[Qo]at h;subst h;unfold aOb;simp only[↓C2,Ih,simprocAttr,Qw];refine aHb (s:=s) (l:=l) (nl:=nl) (t:=t) (e:=FW s l) a w (λz u=>?_) l.length 0 _ _ _ _ O rfl rfl rfl rfl rfl rfl rfl;simp only[↓C2,Ij,simprocAttr,u]
   ·cases h
  ·cases h
def CP(l:List Rl)(s:Bs):Int:=if FW s (l.map (·.1))<0 then 0 else(BL l (FW s (l.map (·.1))).toNat).2
def Ss(s:Bs)(l:List Bs):∀(f j:Nat)(b n:Int),l.length=j+f->b<l.length->MU s l f j b n<l.length
 |0,j,b,n,hf,hb=>by simpa[MU]using hb
 |f+1,j,b,n,hf,hb=>by
  unfold MU;split
  ·exact Ss s l f (j+1) _ _ O O
  ·exact Ss s l f (j+1) _ _ O hb
def Su(s:Bs)(l:List Bs):FW s l<l.length:=Ss s l _ _ _ _ O O
open Classical in
def F95:List D->Option D
 |[.slice _ _ xs,.str s]=>if xs=Aj (Br xs)∧xs.length<=1000000 then some (.int .u8 (CP (Br xs) s))else none
 |_=>none
open Classical in
def oK{nl:Bool}{t:Id}{l:List Rl}{s:Bs}(w:l.length<=1000000):F95 [.slice nl t (Aj l),.str s]=some (.int .u8 (CP l s)):=by
 have h:Aj l=Aj (Br (Aj l))∧(Aj l).length<=1000000:=by rw[A_,Aw];exact⟨rfl,w⟩
 show(if _ then _ else _)=_;rw[if_pos h,A_]
open Classical in
theorem tU{ds:List D}{r:D}(h:F95 ds=some r):∃nl t l s,ds=[.slice nl t (Aj l),.str s]∧l.length<=1000000∧r= .int .u8 (CP l s):=by
 unfold F95 at h;split at h
 ·rename_i nl t xs s;split at h
  ·rename_i k;obtain⟨u,q⟩:=k;simp only[Qo]at h;subst h;refine⟨nl,t,Br xs,s,XJ,?_,rfl⟩;rw[u,Aw]at q;exact q
  ·cases h
 ·cases h
def aQk:Kq F95 95:=by
 obtain⟨S,q,w⟩:=A7 (Aa aVa (Aa aVb Ad));have d:=w 199 _ rfl;have c:=w 198 _ rfl;clear w;refine AD (S:=S) q (Ai func95:Fn Qs 95 17 aXQ [.t 4]) (λds r h=>?_) (λds r h=>?_)
 ·grind [tU]
 ·obtain⟨nl,t,l,s,rfl,w,rfl⟩:=tU h;have b:∀m fr,(Vq aFm).ex [.slice nl t (Aj l)] m fr=some (.slice false [] ((l.map (·.1)).map .str),[]):=by
   grind [Vq,aKt]
  have a:aAi [.str s,.slice false [] ((l.map (·.1)).map .str)]=some (.int .i64 (FW s (l.map (·.1)))):=aKu Xr;have ca:((l.map (·.1)).map D.str).all D.calm=true:=Ye
  have z:((l.map (·.1)).map D.str).map D.un=(l.map (·.1)).map D.str:=by rw[QY];exact QR λ_ _=>rfl
  unfold aXQ CP;have v:=Su s (l.map (·.1));rw[Qw]at v;generalize FW s (l.map (·.1))=i at a v;by_cases hi:i<0
  ·simp only[↓C2,Ij,simprocAttr,AN d,b,Ab c,a,hi]
  ·obtain⟨j,rfl⟩:=QD (show 0<=i by omega);have k:j<l.length:=by omega
   have n:=nJ (j:=j);have ga:(Aj l)[j]?=some (.agg [.str (BL l j).1,.int .u8 (BL l j).2]):=Ek k;simp only[↓C2,Iw,Ii,simprocAttr,AN d,b,Ab c,a,hi,n,Qq,ga,and_self,QB,Za,QE]
def aG2{S:Ic}{ns:Id}{s:Bs}{l:List Rl}{nl:Bool}{t:Id}{Q:Ex->St->Prop}{e:Int}(y:S 111=some (Af bL))(hb:l.length<=1000000)(la:Ca l)(m:s.length<=1000000)
  (ia:∀z,z.s 0= .slice nl t (Aj l)->z.s 5= .int .i64 e->Q (.exit 0) z):
  ∀(f j:Nat)(b n:Int) z g,l.length=j+f->b<l.length->(b<0∧n=-1∨0<=b∧n=((BL l b.toNat).1.length:Int))->MU s (l.map (·.1)) f j b n=e->z.s 0= .slice nl t (Aj l)->z.s 1= .str s->z.s 5= .int .i64 b->z.s 6= .int .i64 (j:Int)->A2 S ns Rm Q z g:=by
 intro f;induction f with
 |zero=>
  intro j b n z g hf wa ya x r u h5 h6;refine Ae Rm.eq_1 ?_;have:¬((j:Int)<l.length):=O
  simp only[↓C2,Ih,Ii,simprocAttr,r,h6,this,Aw];exact ia _ r (by rw[←x];exact h5)
 |succ f ih=>
  intro j b n z g hf wa ya x r u h5 h6;refine Ae Rm.eq_1 ?_;unfold MU at x;have k:j<l.length:=O
  have v:((j:Int)<l.length):=O
  have qa:=nJ (j:=j);have hw:=wJ (j:=j) O;have w:(Aj l)[j]?=some (.agg [.str (BL l j).1,.int .u8 (BL l j).2]):=Ek k;have hg:(l.map (·.1)).getD j []=(BL l j).1:=by simp[BL,Qp k]
  have c:(j:Int)<0∧(((BL l j).1.length:Nat):Int)=-1∨0<=(j:Int)∧(((BL l j).1.length:Nat):Int)=((BL l (j:Int).toNat).1.length:Int):= .inr ⟨O,rfl⟩;rw[hg]at x;have xa:=Lu la k;generalize (BL l j).1=p at w x c xa;have d:bL [.str s,.str p]=some (.bool (Ba s p)):=if_pos ⟨m,xa⟩;obtain⟨ja,da,q⟩:=z;simp only at r u h5 h6;rcases ya with ⟨o,rfl⟩|⟨o,hn⟩
  ·cases hp:Ba s p with
   |true=>
    rw[if_pos ⟨O,hp⟩]at x;simp only[↓C2,Iw,Ii,simprocAttr,r,u,h5,h6,v,qa,Qq,w,Aw,Ab y,d,Qz,QB,QE,hp,o];refine Al ?_;simp only[↓C2,Ih,IM,simprocAttr,h6,hw];exact ih (j+1) _ _ _ _ O O c x r u rfl rfl
   |false=>
    rw[if_neg (by rw[hp];simp)]at x;simp only[↓C2,Iw,Ii,simprocAttr,r,u,h6,v,qa,Qq,w,Aw,Ab y,d,Qz,QB,QE,hp];refine Al ?_;simp only[↓C2,Ih,IM,simprocAttr,h6,hw];exact ih (j+1) _ _ _ _ O wa (.inl ⟨o,rfl⟩) x r u h5 rfl
  ·obtain⟨i,rfl⟩:=QD o;rw[Qq]at hn;have hi:i<l.length:=by omega
   have ra:¬((i:Int)<0):=O
   have a:(Aj l)[i]?=some (.agg [.str (BL l i).1,.int .u8 (BL l i).2]):=Ek hi;subst hn;have ka:(i:Int)<0∧(((BL l i).1.length:Nat):Int)=-1∨0<=(i:Int)∧(((BL l i).1.length:Nat):Int)=((BL l (i:Int).toNat).1.length:Int):= .inr ⟨O,rfl⟩;generalize (BL l i).1=pi at a x ka;cases hp:Ba s p with
   |true=>
    by_cases hn:((pi.length:Int)<(p.length:Int))
    ·rw[if_pos ⟨hn,hp⟩]at x;simp only[↓C2,Iw,Ii,simprocAttr,r,u,h5,h6,v,qa,Qq,w,Aw,Ab y,d,Qz,QB,QE,hp,ra,a,hn,Qz,ZJ];refine Al ?_;simp only[↓C2,Ih,IM,simprocAttr,h6,hw];exact ih (j+1) _ _ _ _ O O c x r u rfl rfl
    ·rw[if_neg (λh=>hn h.1)]at x;simp only[↓C2,Iw,Ii,simprocAttr,r,u,h5,h6,v,qa,Qq,w,Aw,Ab y,d,Qz,QB,QE,hp,ra,a,hn,ZJ];refine Al ?_;simp only[↓C2,Ih,IM,simprocAttr,h6,hw];exact ih (j+1) _ _ _ _ O O ka x r u h5 rfl
   |false=>
    rw[if_neg (by rw[hp];simp)]at x;simp only[↓C2,Iw,Ii,simprocAttr,r,u,h6,v,qa,Qq,w,Aw,Ab y,d,Qz,QB,QE,hp];refine Al ?_;simp only[↓C2,Ih,IM,simprocAttr,h6,hw];exact ih (j+1) _ _ _ _ O O ka x r u h5 rfl
open Classical in
def aFi:List D->Option D
 |[.slice _ _ xs,.str s]=>if xs=Aj (Br xs)∧xs.length<=1000000∧Ca (Br xs)∧s.length<=1000000 then some (.int .u8 (CP (Br xs) s))else none
 |_=>none
open Classical in
def W9{nl:Bool}{t:Id}{l:List Rl}{s:Bs}(w:l.length<=1000000)(g:Ca l)(j:s.length<=1000000):aFi [.slice nl t (Aj l),.str s]=some (.int .u8 (CP l s)):=by
 have h:Aj l=Aj (Br (Aj l))∧(Aj l).length<=1000000∧Ca (Br (Aj l))∧s.length<=1000000:=by rw[A_,Aw];exact⟨rfl,w,g,j⟩
 show(if _ then _ else _)=_;rw[if_pos h,A_]
open Classical in
theorem iI{ds:List D}{r:D}(h:aFi ds=some r):∃nl t l s,ds=[.slice nl t (Aj l),.str s]∧l.length<=1000000∧Ca l∧s.length<=1000000∧r= .int .u8 (CP l s):=by
 unfold aFi at h;split at h
 ·rename_i nl t xs s;split at h
  ·rename_i k;obtain⟨u,q,o⟩:=k;simp only[Qo]at h;subst h;refine⟨nl,t,Br xs,s,XJ,?_,o.1,o.2,rfl⟩;rw[u,Aw]at q;exact q
  ·cases h
 ·cases h
def aLk:Kq aFi 220:=by
 obtain⟨S,q,w⟩:=A7 (Aa aBM Ad);have y:=w 111 _ rfl;clear w;refine AD (S:=S) q (Ai func220:Fn Qs 220 47 aNS [.t 4]) (λds r h=>?_) (λds r h=>?_)
 ·grind [iI]
 ·obtain⟨nl,t,l,s,rfl,w,g,hs,rfl⟩:=iI h;unfold aNS CP;have v:=Su s (l.map (·.1));rw[Qw]at v;simp only[↓C2,Ih,Qu];refine aG2 (s:=s) (l:=l) (nl:=nl) (t:=t) (e:=FW s (l.map (·.1))) y w g hs (λz m u=>?_) l.length 0 (-1) (-1) _ _ O O (.inl ⟨O,rfl⟩) (by rw[FW,Qw]) rfl rfl rfl rfl;generalize FW s (l.map (·.1))=i at u v;by_cases hi:i<0
  ·simp only[↓C2,Ij,simprocAttr,u,hi]
  ·obtain⟨j,rfl⟩:=QD (show 0<=i by omega);have k:j<l.length:=by omega
   have a:=nJ (j:=j);have d:(Aj l)[j]?=some (.agg [.str (BL l j).1,.int .u8 (BL l j).2]):=Ek k;simp only[↓C2,Iw,Ii,simprocAttr,m,u,hi,a,Qq,d,and_self,QB,Za,QE]
def H5(l:List Rl)(s:Bs)(f:Int):Bool:=N9 (CP l s).toNat f.toNat
def Eh(l:List Rl):Prop:=∀r∈l,0<=r.2∧r.2<256
open Classical in
def aAf:List D->Option D
 |[.slice _ _ xs,.str s,.int .u8 k]=>if xs=Aj (Br xs)∧xs.length<=1000000∧Eh (Br xs)∧Ca (Br xs)∧s.length<=1000000∧0<=k∧k<256 then some (.bool (H5 (Br xs) s k))else none
 |_=>none
open Classical in
def uA{nl:Bool}{t:Id}{l:List Rl}{s:Bs}{k:Int}(w:l.length<=1000000)(x:Eh l)(g:Ca l)(j:s.length<=1000000)(r:0<=k)(u:k<256):aAf [.slice nl t (Aj l),.str s,.int .u8 k]=some (.bool (H5 l s k)):=by
 have h:Aj l=Aj (Br (Aj l))∧(Aj l).length<=1000000∧Eh (Br (Aj l))∧Ca (Br (Aj l))∧s.length<=1000000∧0<=k∧k<256:=by rw[A_,Aw];exact⟨rfl,w,x,g,j,r,u⟩
 show(if _ then _ else _)=_;rw[if_pos h,A_]
open Classical in
theorem Oz{ds:List D}{r:D}(h:aAf ds=some r):∃nl t l s k,ds=[.slice nl t (Aj l),.str s,.int .u8 k]∧l.length<=1000000∧Eh l∧Ca l∧s.length<=1000000∧0<=k∧k<256∧r= .bool (H5 l s k):=by
 unfold aAf at h;split at h
 ·rename_i nl t xs s k;split at h
  ·rename_i x;obtain⟨u,q,o,g,j,b,m⟩:=x;simp only[Qo]at h;subst h;refine⟨nl,t,Br xs,s,k,XJ,?_,o,g,j,b,m,rfl⟩;rw[u,Aw]at q;exact q
  ·cases h
 ·cases h
def Ok{l:List Rl}{s:Bs}(k:Eh l):0<=CP l s∧CP l s<256:=by
 unfold CP;have v:=Su s (l.map (·.1));rw[Qw]at v;split
 ·omega
 ·rename_i h;have y:(FW s (l.map (·.1))).toNat<l.length:=by omega
  have:BL l (FW s (l.map (·.1))).toNat=l[(FW s (l.map (·.1))).toNat]:=by simp[BL,Qp y]
  rw[this];exact k _ (Q6 y)
def tZ{a c:Int}(u:0<=a)(q:a<256)(o:0<=c)(b:c<256):aFj [.int .u8 a,.int .u8 c]=some (.bool (N9 a.toNat c.toNat)):=if_pos ⟨u,q,o,b⟩
def aVg:Kq aAf 164:=by
 obtain⟨S,q,w⟩:=A7 (Aa aLk (Aa aLl Ad));have c:=w 220 _ rfl;have d:=w 219 _ rfl;clear w;refine AD (S:=S) q (Ai func164:Fn Qs 164 12 aOB [.t 6]) (λds r h=>?_) (λds r h=>?_)
 ·grind [Oz]
 ·obtain⟨nl,t,l,s,k,rfl,w,v,g,j,m,u,rfl⟩:=Oz h;have e1:=W9 (nl:=nl) (t:=[]) (s:=s) w g j;have i:=Ok (s:=s) v;have e2:=tZ i.1 i.2 m u;have ca:(Aj l).all D.calm=true:=by rw[QA];intro x p;obtain⟨y,_,rfl⟩:=QV.1 p;rfl
  have z:(Aj l).map D.un=Aj l:=YL
  unfold aOB H5;simp only[↓C2,Ij,simprocAttr,Ab c,e1,Ab d,e2]
def aU3:Kq aAf 215:=by
 obtain⟨S,q,w⟩:=A7 (Aa aQk Ad);have ka:=w 95 _ rfl;clear w;refine AD (S:=S) q (Ai func215:Fn Qs 215 13 aNW [.t 6]) (λds r h=>?_) (λds r h=>?_)
 ·grind [Oz]
 ·obtain⟨nl,t,l,s,k,rfl,w,v,g,j,m,u,rfl⟩:=Oz h;have e1:=oK (nl:=nl) (t:=[]) (s:=s) w;have i:=Ok (s:=s) v;have ca:(Aj l).all D.calm=true:=by rw[QA];intro x p;obtain⟨y,_,rfl⟩:=QV.1 p;rfl
  have z:(Aj l).map D.un=Aj l:=YL
  unfold aNW H5;generalize CP l s=a at e1 i;obtain⟨a,rfl⟩:=QD i.1;obtain⟨k,rfl⟩:=QD m;have n:=S5 (a:=a) (c:=k) O O;have hz:decide (((Zj k (255-a):Nat):Int)=0)=N9 a k:=by
   unfold N9;generalize Zj k (255-a)=x;cases x with
   |zero=>rfl
   |succ x=>simp[Nat.beq];omega
  simp only[↓C2,Ij,simprocAttr,Ab ka,e1,bU,n,hz,Qq]
def F6{m:Ig}{e:Nat}{nl:Bool}{t:Id}{xs:List D}:L8 m e (.slice nl t xs)=(nl=true∨(m t 0=some (.tok (e+1))∧t≠[])):=rfl
def E_{e:Nat}{fr t:Id}{xs:List D}:Bm e fr (.slice false t xs)=[(t,0,[.tok 0]),(fr,0,[.tok (e+1)])]:=rfl
def cV(a b:List Rl):Aj a++Aj b=Aj (a++b):=(ZC ..).symm
def Ea(l:List Rl):(Aj l).all D.calm=true:=Ye
def Gu(l:List Rl):(Aj l).map D.un=Aj l:=YL
def VD(a b:List Rl)(r:Rl):Bool:=N9 (CP b r.1).toNat (CP a r.1).toNat
def Er(a b l:List Rl):Nat->Nat->Bool
 |0,_=>true
 |f+1,j=>if VD a b (BL l j)=true then Er a b l f (j+1)else false
theorem GF(a b l:List Rl):∀(f j:Nat),l.length=j+f->Er a b l f j=(l.drop j).all (VD a b)
 |0,j,h=>by rw[List.drop_of_length_le O];rfl
 |f+1,j,h=>by
  have y:j<l.length:=O
  have e:BL l j=l[j]:=by simp[BL,Qp y]
  unfold Er;rw[GF a b l f (j+1) O,QW y,ZS,e];cases VD a b l[j]<;>simp
def DZ(a b:List Rl):Bool:=decide (CT a=0)&&decide (CT b=0)&&(a++b).all (VD a b)
def aHl{S:Ic}{ns:Id}{a b l:List Rl}{nl na nb:Bool}{t ta tb:Id}{Q:Ex->St->Prop}{e:Bool}(c:S 220=some (Af aFi))(d:S 219=some (Af aFj))
  (la:a.length<=1000000) (lb:b.length<=1000000) (pa:Ca a) (pb:Ca b) (ca:Eh a) (cb:Eh b) (p:l.length<=1000000) (xa:Ca l)
  (ma:∀z,e=false->z.s 4= .bool false->Q .ret z) (ia:∀z,e=true->Q (.exit 0) z):
  ∀(f j:Nat) z g,l.length=j+f->Er a b l f j=e->z.s 0= .slice na ta (Aj a)->z.s 1= .slice nb tb (Aj b)->z.s 5= .slice nl t (Aj l)->z.s 6= .int .i64 (j:Int)->A2 S ns RJ Q z g:=by
 intro f;induction f with
 |zero=>
  intro j z g hf x r u h5 h6;refine Ae RJ.eq_1 ?_;have:¬((j:Int)<l.length):=O
  simp only[↓C2,Ih,Ii,simprocAttr,h5,h6,this,Aw];exact ia _ x.symm
 |succ f ih=>
  intro j z g hf x r u h5 h6;refine Ae RJ.eq_1 ?_;unfold Er at x;have hj:j<l.length:=O
  have v:((j:Int)<l.length):=O
  have qa:=nJ (j:=j);have hw:=wJ (j:=j) O;have w:(Aj l)[j]?=some (.agg [.str (BL l j).1,.int .u8 (BL l j).2]):=Ek hj;have hq:=Lu xa hj;unfold VD at x;generalize (BL l j).1=q at w hq x;have o:=W9 (nl:=na) (t:=[]) (s:=q) la pa hq;have eb:=W9 (nl:=nb) (t:=[]) (s:=q) lb pb hq;have y:=Ok (s:=q) ca;have bb:=Ok (s:=q) cb;have h:=tZ bb.1 bb.2 y.1 y.2;have k:=Ea a;have i:=Ea b;have n:=Gu a;have m:=Gu b;generalize N9 (CP b q).toNat (CP a q).toNat=hh at x h;obtain⟨ja,da,fa⟩:=z;simp only at r u h5 h6;cases hh with
  |true=>
   rw[if_pos rfl]at x;simp only[↓C2,Iw,Ii,simprocAttr,r,u,h5,h6,v,qa,hw,Qq,w,Aw,Ab c,o,eb,Ab d,h,Qz,QB,QE];exact ih (j+1) _ _ O x r u h5 rfl
  |false=>
   rw[if_neg U]at x;simp only[↓C2,Iw,Ii,simprocAttr,r,u,h5,h6,v,qa,Qq,w,Aw,Ab c,o,eb,Ab d,h,Qz,QB,QE];exact ma _ x.symm rfl
open Classical in
def aFq:List D->Option D
 |[.slice _ _ xs,.slice _ _ ys]=>if(xs=Aj (Br xs)∧xs.length<=1000000∧Ca (Br xs)∧Eh (Br xs))∧ys=Aj (Br ys)∧ys.length<=1000000∧Ca (Br ys)∧Eh (Br ys)then some (.bool (DZ (Br xs) (Br ys)))else none
 |_=>none
open Classical in
def uD{na nb:Bool}{ta tb:Id}{a b:List Rl}(la:a.length<=1000000)(d:b.length<=1000000)(pa:Ca a)(w:Ca b)(x:Eh a)(i:Eh b):aFq [.slice na ta (Aj a),.slice nb tb (Aj b)]=some (.bool (DZ a b)):=by
 have h:(Aj a=Aj (Br (Aj a))∧(Aj a).length<=1000000∧Ca (Br (Aj a))∧Eh (Br (Aj a)))∧Aj b=Aj (Br (Aj b))∧(Aj b).length<=1000000∧Ca (Br (Aj b))∧Eh (Br (Aj b)):=by
  grind [A_,Aw]
 show(if _ then _ else _)=_;rw[if_pos h,A_,A_]
open Classical in
theorem OA{ds:List D}{r:D}(h:aFq ds=some r):∃na ta a nb tb b,ds=[.slice na ta (Aj a),.slice nb tb (Aj b)]∧a.length<=1000000∧b.length<=1000000∧Ca a∧Ca b∧Eh a∧Eh b∧r= .bool (DZ a b):=by
 unfold aFq at h;split at h
 ·rename_i na ta xs nb tb ys;split at h
  ·rename_i k;obtain⟨⟨u,q,o,n⟩,m,x,w,y⟩:=k;simp only[Qo]at h;subst h;refine⟨na,ta,Br xs,nb,tb,Br ys,by rw[←u,←m],?_,?_,o,w,n,y,rfl⟩
   ·rw[u,Aw]at q;exact q
   ·rw[m,Aw]at x;exact x
  ·cases h
 ·cases h
def aVw:Kq aFq 118:=by
 obtain⟨S,v,w⟩:=A7 (Aa qB (Aa aLk (Aa aLl Ad)));have da:=w 218 _ rfl;have c:=w 220 _ rfl;have d:=w 219 _ rfl;clear w;refine AD (S:=S) v (Ai func118:Fn Qs 118 40 aPb [.t 4]) (λds r h=>?_) (λds r h=>?_)
 ·grind [OA]
 ·obtain⟨na,ta,a,nb,tb,b,rfl,la,lb,pa,pb,x,s,rfl⟩:=OA h;have ea:=MA (nl:=na) (t:=[]) la pa;have eb:=MA (nl:=nb) (t:=[]) lb pb;have k:=Ea a;have i:=Ea b;have n:=Gu a;have m:=Gu b;have o:CT a=0->a.length<=4:=by unfold CT;split<;>omega
  have j:CT b=0->b.length<=4:=by unfold CT;split<;>omega
  unfold aPb DZ;generalize CT a=xa at *;generalize CT b=xb at *;by_cases f:xa=0
  ·by_cases g:xb=0
   ·have q:=o f;have p:=j g;subst f g;have n1:(Aj a).length*25<=140737488355328:=by rw[Aw];omega
    have n2:((Aj a).length+(Aj b).length)*25<=140737488355328:=by rw[Aw,Aw];omega
    simp only[↓C2,Iw,Ii,simprocAttr,Ab da,ea,eb,F6,E_,n1,n2,OK,false_or,false_and,ZD,ne_eq,ZA,List.all_nil,cV,if_false,Ag,Qz,QK,Qt,and_self];refine aHl (a:=a) (b:=b) (l:=a++b) (e:=(a++b).all (VD a b)) c d la lb pa pb x s Xc ?_ (λz u h2=>?_) (λz u=>?_) (a++b).length 0 _ _ O ?_ rfl rfl rfl rfl
    ·intro r y;rcases ZO.1 y with h|h
     ·exact pa r h
     ·exact pb r h
    ·simp only[↓C2,Ij,u,h2]
    ·simp only[↓C2,Ij,reduceIte,Qu,u]
    ·grind [GF]
   ·simp only[↓C2,Ij,simprocAttr,Ab da,ea,eb,g,f];simp
  ·simp only[↓C2,Ij,simprocAttr,Ab da,ea,f];simp
def aNC:=y0 f246 [] []
def rQ:=y0 f294 [] []
def aL1:Fn Qs 294 12 rQ [.t 4]:=Ai func294
def Rb:=y1 f295 3 [] []
def rP:=y0 f295 [] [(3,Rb)]
def aL0:Fn Qs 295 23 rP [.t 4]:=Ai func295
def rT:=y0 f191 [(3,[(5,1)])] []
def aL3:Fn Qs 191 52 rT [.t 4]:=Ai func191
def aPq:=y0 f102 [] []
def RO:=y1 f105 3 [] []
def aPn:=y0 f105 [] [(3,RO)]
def iH:List D->Option D
 |[.int .i64 n,.int .i64 lo,.int .i64 hi]=>some (.bool (decide (lo<=n∧n<=hi)))
 |_=>none
def aBI:Kq iH 246:=by
 refine AD (S:=λ_=>none) AI (Ai func246:Fn Qs 246 15 aNC [.t 6]) (λds r h=>?_) (λds r h=>?_)
 ·unfold iH at h;split at h
  ·simp
  ·cases h
 ·unfold iH at h;split at h
  ·rename_i n lo hi;simp only[Qo]at h;subst h;unfold aNC;simp only[↓C2,Ih,simprocAttr]
   repeat' (first|(refine aD (λh=>?_) (λh=>?_)<;>try (exfalso;omega))|(simp only[↓C2,Ij,simprocAttr,h,and_self,false_and]))
   all_goals (simp_all<;>omega)
  ·cases h
def aKf:List D->Option D
 |[.agg [.int .i64 a,.bool b,.int .i64 c,.slice nl t xs],.agg [.int .i64 q,.bool b2]]=>some (.int .i64 (if a=0 then q else a))
 |_=>none
def aUK:Kq aKf 294:=by
 refine AD (S:=λ_=>none) AI aL1 (λds r h=>?_) (λds r h=>?_)
 ·unfold aKf at h;split at h
  ·simp
  ·cases h
 ·unfold aKf at h;split at h
  ·rename_i a b c nl t xs q m;simp only[Qo]at h;subst h;unfold rQ;simp only[↓C2,Iw,Ii,simprocAttr,Ag,Qz,QK,Qt,and_self,QG,Zb]
   repeat' (first|(refine aD (λh=>?_) (λh=>?_)<;>try (exfalso;omega))|(simp only[↓C2,Iw,Ii,simprocAttr,h,Ag,Qz,QK,Qt,and_self,QG,Zb,Zn]))
   all_goals simp_all
  ·cases h
def aKe:List D->Option D
 |[.slice nl t [],.fn g caps]=>some (.bool true)
 |_=>none
def aUJ:Kq aKe 295:=by
 refine AD (S:=λ_=>none) AI aL0 (λds r h=>?_) (λds r h=>?_)
 ·unfold aKe at h;split at h
  ·simp
  ·cases h
 ·unfold aKe at h;split at h
  ·rename_i nl t g caps;simp only[Qo]at h;subst h;unfold rP;simp only[↓C2,Ih,simprocAttr,QO];refine Ae Rb.eq_1 ?_;simp only[↓C2,Ij,simprocAttr,and_self,ZT,Zc]
  ·cases h
def aKz:List D->Option D
 |[.agg [.int .i64 0,.bool b,.int .i64 0,.slice nl t []],.agg [.int .i64 q,.bool b2]]=>some (.int .i64 (if 1<=q∧q<=6 then 0 else 2))
 |_=>none
def aVf:Kq aKz 191:=by
 obtain⟨S,v,w⟩:=A7 (Aa aBI (Aa aUK (Aa aUJ Ad)));have a:=w 246 _ rfl;have e:=w 294 _ rfl;have i:=w 295 _ rfl;clear w;refine AD (S:=S) v aL3 (λds r h=>?_) (λds r h=>?_)
 ·unfold aKz at h;split at h
  ·simp
  ·cases h
 ·unfold aKz at h;split at h
  ·rename_i b nl t q m;simp only[Qo]at h;subst h;unfold rT;have c:∀n lo hi,iH [.int .i64 n,.int .i64 lo,.int .i64 hi]=some (.bool (decide (lo<=n∧n<=hi))):=λ_ _ _=>rfl
   have d:aKf [.agg [.int .i64 0,.bool b,.int .i64 0,.slice nl [] []],.agg [.int .i64 q,.bool m]]=some (.int .i64 q):=rfl;have f:∀nl t g caps,aKe [.slice nl t [],.fn g caps]=some (.bool true):=λ_ _ _ _=>rfl
   by_cases s:1<=q∧q<=6
   ·have l:¬(q<0):=by omega
    simp only[↓C2,Is,simprocAttr,Ag,Ao,Ap,QM,QG,Zb,Zn,and_false,Ab a,c,Ab e,d,Ab i,f,s,l,Zc];refine Al ?_;simp only[↓C2,Is,simprocAttr,Ag,QG,Zb,and_false,s,ZT,Zc]
   ·simp only[↓C2,Iw,Ii,simprocAttr,Ag,Qz,QK,Qt,and_self,QG,Zn,Ab a,c,s]
  ·cases h
def aN1:=y0 f210 [] []
def aPk:=y0 f109 [] []
def aPl:=y0 f108 [] []
abbrev Mt:=Bs×Int×Bool
def I0(m:Mt):D:= .agg [.str m.1,.int .i64 m.2.1,.bool m.2.2]
def Ar(l:List Mt):List D:=l.map I0
def mtT:D->Mt
 | .agg [.str p,.int .i64 q,.bool b]=>(p,q,b)
 |_=>([],0,false)
def Cb(xs:List D):List Mt:=xs.map mtT
def Bj(l:List Mt):Cb (Ar l)=l:=by
 simp only[Cb,Ar,QY]
 conv=>rhs;rw[←ZY l]
 exact QR λr _=>rfl
theorem Au(l:List Mt):(Ar l).length=l.length:=Qw ..
def aBY(l:List Mt):(Ar l).all (rJ (some 3))=true:=by
 rw[QA];intro x p;obtain⟨r,_,rfl⟩:=QV.1 p;rfl
def AZ(l:List Mt)(j:Nat):Mt:=l.getD j ([],0,false)
def Dc{l:List Mt}{j:Nat}(h:j<l.length):(Ar l)[j]?=some (I0 (AZ l j)):=by
 grind [Ar,AZ]
def DQ(p:Bs)(q:Int):Int:=if Bf p≠0 then Bf p else if 1<=q∧q<=6 then 0 else 2
def Bh(l:List Mt)(p:Bs):Int:=Bc (l.map λm=>decide (m.1=p))
def wM{l:List Mt}{nl:Bool}{t:Id}(w:l.length<=1000000){q:Bs}(m:Ig)(fr i:Id)(z:m i 0=some (.str q)):
  (GU 204 (some 3) aET).ex [.slice nl t (Ar l),.fn 204 [.ptr i 0]] m fr=some (.int .i64 (Bh l q),[]):=by
 have e:(Ar l).map (aET (.str q))=(l.map λr=>decide (r.1=q)).map λb=>some (.bool b):=by
  simp only[Ar,QY];exact QR λr _=>rfl
 simp only[GU,Au,w,aBY,and_self,if_true,GW,z,QM,e,Ee,QX];rfl
def FU(s:Bs)(l:List Bs):Bool:=l.any λq=>Ba s q||Ba q s
def aDO{l:List Bs}{nl:Bool}{t:Id}(w:l.length<=1000000){s:Bs}(m:Ig)(fr i:Id)(z:m i 0=some (.str s)):
  (iO 205 none zZ).ex [.slice nl t (l.map .str),.fn 205 [.ptr i 0]] m fr=some (.bool (FU s l),[]):=by
 have e:(l.map D.str).map (zZ (.str s))=(l.map λq=>Ba s q||Ba q s).map λb=>some (.bool b):=by
  simp only[QY];exact QR λr _=>rfl
 have n:(l.map D.str).all (rJ none)=true:=by
  rw[QA];intro x p;obtain⟨r,_,rfl⟩:=QV.1 p;rfl
 simp only[iO,Qw,w,n,and_self,if_true,GW,z,QM,e,Ee,QX];simp only[FU,ZU];rfl
def aK4:List D->Option D
 |[.agg [.str p,.int .i64 q,.bool b]]=>if p.length<=1000000 then some (.int .i64 (DQ p q))else none
 |_=>none
def aVH:Kq aK4 102:=by
 obtain⟨S,v,w⟩:=A7 (Aa qE (Aa aVf Ad));have u:=w 201 _ rfl;have f:=w 191 _ rfl;clear w;refine AD (S:=S) v (Ai func102:Fn Qs 102 14 aPq [.t 2]) (λds r h=>?_) (λds r h=>?_)
 ·unfold aK4 at h;split at h
  ·simp
  ·cases h
 ·unfold aK4 at h;split at h
  ·rename_i p q b;split at h
   ·rename_i k;simp only[Qo]at h;subst h;unfold aPq;have a:iJ [.str p]=some (.int .i64 (Bf p)):=if_pos k;have y:aKz [.agg [.int .i64 0,.bool false,.int .i64 0,.slice true [] []],.agg [.int .i64 q,.bool b]]=some (.int .i64 (if 1<=q∧q<=6 then 0 else 2)):=rfl;unfold DQ;generalize Bf p=e at *;generalize (if 1<=q∧q<=6 then(0:Int)else 2)=e2 at *;by_cases x:e=0
    ·subst x;simp only[↓C2,Is,reduceIte,Qv,Qu,Ag,Ao,Ap,Q7,QM,Cd,Ab u,a,Ab f,y,ne_eq]
    ·simp only[↓C2,Iw,Ii,reduceIte,Qv,Qu,Ag,Qz,Q7,QK,Qt,and_self,Ab u,a,x,ne_eq]
   ·cases h
  ·cases h
open Classical in
def aFv:List D->Option D
 |[.agg [.slice _ _ xs],.str p]=>if xs=Ar (Cb xs)∧xs.length<=1000000 then some (.int .i64 (Bh (Cb xs) p))else none
 |_=>none
open Classical in
def RZ{nl:Bool}{t:Id}{l:List Mt}{p:Bs}(w:l.length<=1000000):aFv [.agg [.slice nl t (Ar l)],.str p]=some (.int .i64 (Bh l p)):=by
 have h:Ar l=Ar (Cb (Ar l))∧(Ar l).length<=1000000:=XM
 show(if _ then _ else _)=_;rw[if_pos h,Bj]
def aBN:Kq aFv 103:=by
 obtain⟨S,v,w⟩:=A7 (Aa aQ7 Ad);have a:=w 203 _ rfl;clear w;refine AD (S:=S) v (Ai func103:Fn Qs 103 9 aPp [.t 4]) (λds r h=>?_) (λds r h=>?_)
 ·unfold aFv at h;split at h
  ·simp
  ·cases h
 ·unfold aFv at h;split at h
  ·rename_i nl t xs p;split at h
   ·rename_i k;obtain⟨o,u⟩:=k;simp only[Qo]at h;subst h;generalize Cb xs=l at o;subst o;rw[Au]at u;unfold aPp;simp only[↓C2,Iw,Ii,reduceIte,Qv,Qu,Ag,Qz,Q7,QK,Qt,and_self,QG,Zb,Zn,AN a,wM (q:=p) u]
   ·cases h
  ·cases h
def aFu:List D->Option D
 |[.str s,.slice _ _ xs]=>(HM xs).bind λl=>if l.length<=1000000 then some (.bool (FU s l))else none
 |_=>none
def aK3{s:Bs}{nl:Bool}{t:Id}{l:List Bs}(w:l.length<=1000000):aFu [.str s,.slice nl t (l.map .str)]=some (.bool (FU s l)):=by
 grind [aFu,HJ]
def aVG:Kq aFu 104:=by
 obtain⟨S,v,w⟩:=A7 (Aa aYS Ad);have a:=w 192 _ rfl;clear w;refine AD (S:=S) v (Ai func104:Fn Qs 104 8 aPo [.t 4]) (λds r h=>?_) (λds r h=>?_)
 ·unfold aFu at h;split at h
  ·simp
  ·cases h
 ·unfold aFu at h;split at h
  ·rename_i s nl t xs;rw[QH]at h;obtain⟨l,j,h⟩:=h;obtain rfl:=Gp j;split at h
   ·rename_i w;simp only[Qo]at h;subst h;unfold aPo;simp only[↓C2,Iw,Ii,reduceIte,Qv,Qu,Ag,Qz,Q7,QK,Qt,and_self,AN a,aDO (s:=s) w]
   ·cases h
  ·cases h
def RI.base{fr r:Id}{m0 a m:Ig}{l:List Bs}{j:Nat}(h:RI fr r a m l j)(e:∀i o,¬fr<:+i->a i o=m0 i o):RI fr r m0 m l j:=
 ⟨h.row,λi o f=>(h.out i o f).trans (e i o f)⟩
open Classical in
def aK2:List D->Option (List Bs)
 |[.agg [.slice _ _ xs]]=>if xs=Ar (Cb xs)∧xs.length<=1000000 then some ((Cb xs).map (·.1))else none
 |_=>none
open Classical in
def aK1{nl:Bool}{t:Id}{l:List Mt}(w:l.length<=1000000):aK2 [.agg [.slice nl t (Ar l)]]=some (l.map (·.1)):=by
 have h:Ar l=Ar (Cb (Ar l))∧(Ar l).length<=1000000:=XM
 show(if _ then _ else _)=_;rw[if_pos h,Bj]
open Classical in
def aFt{ds:List D}{r:List Bs}(h:aK2 ds=some r):∃nl t l,ds=[.agg [.slice nl t (Ar l)]]∧l.length<=1000000∧r=l.map (·.1):=by
 unfold aK2 at h;split at h
 ·rename_i nl t xs;split at h
  ·rename_i k;obtain⟨u,q⟩:=k;simp only[Qo]at h;subst h;refine⟨nl,t,Cb xs,XJ,?_,rfl⟩;rw[u,Au]at q;exact q
  ·cases h
 ·cases h
def aHn{S:Ic}{fr:Id}{l:List Mt}{nl:Bool}{t:Id}{m0:Ig}{k:Nat}{Q:Ex->St->Prop}(i:l.length<=1000000)
  (e:∀z,z.s 3= .row (k::fr) l.length->RI fr (k::fr) m0 z.m (l.map (·.1)) l.length->Q (.exit 0) z):
  ∀(f j:Nat) z g,l.length=j+f->k<z.c->z.s 3= .row (k::fr) l.length->z.s 11= .slice nl t (Ar l)->z.s 12= .int .i64 (l.length:Int)->z.s 13= .int .i64 (j:Int)->RI fr (k::fr) m0 z.m (l.map (·.1)) j->A2 S fr RO Q z g:=by
 intro f;induction f with
 |zero=>
  intro j z g a x o y p h I;refine Ae RO.eq_1 ?_;have:¬((j:Int)<l.length):=O
  simp only[↓C2,Ih,Ii,reduceIte,Qu,p,h,this];exact e _ o Ya
 |succ f ih=>
  intro j z g a x o y p h I;refine Ae RO.eq_1 ?_;have hj:j<l.length:=O
  have v:((j:Int)<l.length):=O
  have qa:=nJ (j:=j);have hw:=wJ (j:=j) O;have d:(Ar l)[j]?=some (.agg [.str (AZ l j).1,.int .i64 (AZ l j).2.1,.bool (AZ l j).2.2]):=Dc hj;have w:(l.map (·.1)).getD j []=(AZ l j).1:=by simp[AZ,Qp hj]
  generalize AZ l j=r at d w;have oa:((z.c+1+3)::fr=k::fr)=False:=eq_false Xc;have n:(k::fr=(z.c+1+3)::fr)=False:=eq_false Xc;have q:=I.row j XR;rw[if_neg O]at q;obtain⟨ja,u,b⟩:=z;simp only at o y p h x oa n q I;simp only[↓C2,Is,reduceIte,Qv,Qu,o,y,p,h,v,qa,hw,Qq,d,n,q,QF,false_and,Ag,Ao,Ap,Q7,QM,Q9,Zs,Zt,false_and];refine ih (j+1) _ _ O Xb o y p rfl ?_;rw[←w];exact((I.put Xc).put Xc).fill (QS _ _)
def aVF:(Vq aK2).ok Qs 105:=by
 refine pR (S:=λ_=>none) AI (Ai func105:Fn Qs 105 25 aPn [.t 2]) (λds r m fr h n=>?_);obtain⟨nl,t,l,rfl,w,rfl⟩:=aFt h;refine⟨U,?_⟩;have v:((0:Int)<=(l.length:Int)):=O
 have s:((l.length:Int)*(((16:Nat):Int)+1)<=140737488355328)=True:=eq_true O;unfold aPn;simp only[↓C2,Iw,Ii,reduceIte,Qv,Qu,v,s,Au,Qq,ZZ,Ag,Qz,Q7,QK,Qt,and_self,QG,false_and];refine aHn (l:=l) (nl:=nl) (t:=t) (m0:=m) (k:=5) w (λz u q=>?_) l.length 0 _ _ O Xb rfl rfl rfl rfl ?_
 ·simp only[↓C2,Ih,reduceIte,Qv,Qu,u,Qw];exact⟨_,rfl,QS _ _,q⟩
 ·exact RI.base (RI.start (by simp[])) (λi o f=>aA (λe=>f Yy))
def aMY:=y0 f296 [] []
def aMD:=y0 f335 [] []
def aNH:=y0 f241 [] []
def aOZ:=y0 f136 [(1,[(1,0)])] []
def aNG:=y0 f242 [] []
def aMC:=y0 f337 [] []
def aNF:=y0 f243 [(5,[(2,4),(2,6),(6,1),(6,2)]),(7,[(4,2)])] []
def aMB:=y0 f338 [] []
def Wn:=y1 f247 4 [] []
def aNB:=y0 f247 [(1,[(5,1)])] [(4,Wn)]
def fC:=y0 f339 [] []
def aCZ:Fn Qs 339 8 fC [.t 2]:=Ai func339
def aOX:=y0 f139 [] []
def Wm:=y1 f249 8 [] []
def aNz:=y0 f249 [(1,[(1,0)])] [(8,Wm)]
def aNy:=y0 f250 [] []
def aNx:=y0 f251 [] []
def aNw:=y0 f252 [] []
def aOV:=y0 Tryz.f143 [] []
def aOU:=y0 f144 [] []
def aOT:=y0 f145 [] []
def aMz:=y0 f341 [] []
def V7:=y1 f387 2 [] []
def aMe:=y0 f387 [] [(2,V7)]
def Wc:=y1 f340 5 [(7,[(6,2),(6,8),(9,2)])] []
def aMA:=y0 f340 [(1,[(1,0)]),(3,[(5,1),(5,7),(5,10)])] [(5,Wc)]
def aMf:=y0 f386 [] []
end Go.Vd
namespace Go.Vd
section
variable{α:Type}(lt:α->α->Bool)(d:α)
def swp(xs:List α)(j:Nat):List α:=(xs.set (j+1) (xs.getD j d)).set j (xs.getD (j+1) d)
def SF(xs:List α):Nat->List α
 |0=>xs
 |j+1=>if lt (xs.getD (j+1) d) (xs.getD j d)=true then SF (swp d xs j) j else xs
def D6:Nat->Nat->List α->List α
 |0,_,xs=>xs
 |f+1,i,xs=>D6 f (i+1) (SF lt d xs i)
def kR(l:List α)(m:α):Nat->Nat
 |0=>0
 |j+1=>if lt m (l.getD j d)=true then kR l m j else j+1
def aLW(l:List α)(m:α):∀j,kR lt d l m j<=j
 |0=>QF _
 |j+1=>by
  unfold kR;split
  ·exact Nat.le_succ_of_le (aLW l m j)
  ·exact QF _
def pC(xs:List α)(j:Nat):(swp d xs j).length=xs.length:=by simp[swp]
def SE:∀(j:Nat)(xs:List α),(SF lt d xs j).length=xs.length
 |0,xs=>rfl
 |j+1,xs=>by
  unfold SF;split
  ·rw[SE j,pC]
  ·rfl
theorem HY:∀(f i:Nat)(xs:List α),(D6 lt d f i xs).length=xs.length
 |0,_,xs=>rfl
 |f+1,i,xs=>by rw[D6,HY f,SE]
def aF2(a b:List α)(x y:α):swp d (a++x::y::b) a.length=a++y::x::b:=by
 simp_all [swp]
def eC(l:List α)(m:α):∀(j:Nat)(b:List α),j<=l.length->SF lt d (l.take j++m::b) j=l.take (kR lt d l m j)++m::((l.take j).drop (kR lt d l m j)++b)
 |0,b,_=>by simp[SF,kR]
 |j+1,b,h=>by
  have u:(l.take j).length=j:=Xg
  have p:l.take (j+1)=l.take j++[l.getD j d]:=by
   rw[Zi O];simp[Zq,Qp (show j<l.length by omega)]
  have e:l.take (j+1)++m::b=l.take j++l.getD j d::m::b:=by rw[p];simp
  have z:(l.take j++l.getD j d::m::b).getD (j+1) d=m:=by
   simp_all
  have i:(l.take j++l.getD j d::m::b).getD j d=l.getD j d:=by
   simp_all
  rw[e];unfold SF kR;rw[z,i];split
  ·have s:=aF2 d (l.take j) b (l.getD j d) m;rw[u]at s;rw[s,eC l m j (l.getD j d::b) O,p];have g:=aLW lt d l m j;rw[List.drop_append_of_le_length O];simp
  ·simp_all
def lD{xs:List α}{i:Nat}(h:lt (xs.getD i d) (xs.getD (i-1) d)=false):SF lt d xs i=xs:=by
 cases i with
 |zero=>rfl
 |succ j=>
  unfold SF;rw[ZI]at h;rw[if_neg (by rw[h];exact Bool.false_ne_true)]
def UI(l:List α)(m:α)(j:∀i,i+1<l.length->lt (l.getD (i+1) d) (l.getD i d)=false):
  ∀(f i:Nat),1<=i->i+f=l.length+1->D6 lt d f i (l++[m])=if f=0 then l++[m]else l.take (kR lt d l m l.length)++m::l.drop (kR lt d l m l.length)
 |0,i,_,_=>by simp[D6]
 |f+1,i,hi,h=>by
  rw[if_neg (Nat.succ_ne_zero f)];unfold D6;by_cases k:f=0
  ·subst k;have:i=l.length:=by omega
   subst this;have:=eC lt d l m l.length [] (QF _);simp only[ZM,List.append_nil]at this;unfold D6;exact this
  ·have v:i<l.length:=by omega
   have z:(l++[m]).getD i d=l.getD i d:=by simp[Zq,Zw v]
   have b:(l++[m]).getD (i-1) d=l.getD (i-1) d:=by simp[Zq,Zw (show i-1<l.length by omega)]
   rw[lD lt d (by rw[z,b];have:=j (i-1) O;rwa [show i-1+1=i by omega]at this),UI l m j f (i+1) O O,if_neg k]
end
end Go.Vd
namespace Go.Vd
open Go.RowKit
def D.plain:D->Bool
 | .bool _| .int _ _| .str _=>true
 |_=>false
def Im.plain{w o:World}{g l:Gh}{d:D}{v:Value}(h:Im w g d v)(m:d.plain=true):Im o l d v:=by
 cases h with
 |bool b=>exact .bool b
 |int k n=>exact .int k n
 |str s=>exact .str s
 |_=>cases m
def LA(F:List D->Option (List D)):IS where
 rd:=λ_ _=>[]
 ex:=λds _ fr=>if(ds.map D.un).all D.calm=true then(F (ds.map D.un)).map λxs=>(.row fr xs.length,[(fr,0,flat xs)])else none
section
variable{P:Program}{B:Nat}{w0 w w':World}{m:Ig}{g:Gh}
def Iv.adopt(h:Iv P B w0 m w g)(hb:Below w.heap.size w w'){fr:Id}(hf:Cp m g fr){b:Nat}(f:w.heap.size<=b){cur:Array Value}{T:TypeId}(hh:w'.heap[b]?=some (.cells cur T (0,0))){ds:List D}
  (hc:∀(j:Nat) d,ds[j]?=some d->d.plain=true∧∃v,cur[j]?=some v∧v.oneCell'=true∧Im w' (g.obj fr b) d v):
  Iv P B w0 (m.put fr 0 ds) w' (g.obj fr b)∧IF w g w' (g.obj fr b):=by
 have x:IF w g w' (g.obj fr b):=by
  refine⟨λp hp=>?_,λb=>QF _,λi' b h=>?_,rfl,λi x h=>h⟩
  ·by_cases z:p.block<w.heap.size
   ·exact hb.cell z
   ·rw[h.gz _ O]at hp;omega
  ·simp only[Gh.obj];split
   ·rename_i e;subst e;rw[hf.2.1]at h;cases h
   ·exact h
 refine⟨?_,x⟩;have ne:∀i' b',g.dl i'=some b'->i'≠fr:=λi' b' hb e=>by subst e;rw[hf.2.1]at hb;cases hb
 have ca:∀o d,m.put fr 0 ds fr o=some d->ds[o]?=some d:=by
  intro o d hm;by_cases ho:o<ds.length
  ·have da:m.put fr 0 ds fr (0+o)=ds[o]?:=aF ho;rw[QU]at da;rw[←da];exact hm
  ·rw[aC O,hf.1 o]at hm;cases hm
 have xa:∀{o d},m.put fr 0 ds fr o=some d->d.plain=true:=λhm=>(hc _ _ (ca _ _ hm)).1
 have a:∀{i o d},m.put fr 0 ds i o=some d->d.plain=false->i≠fr∧m i o=some d:=by
  grind [aA]
 refine⟨h.below.trans (hb.mono h.size),Q_ h.size hb.size,λb' sa=>h.gz b' (Q_ hb.size sa),h.old,λi' b' hi=>?_,λi1 i2 b' u t=>?_,λi' o d hm k=>?_,λi' e hi=>?_,λi1 i2 e e' b' y y' u t l h4=>?_,h.itr.to (λi' s p e=>(a e rfl).2) λi' b' s p _ _ _ e1 e2 e3=>?_⟩
 rotate_right
 ·have z:b'<w.heap.size:=(QQ.1 e1).1;refine⟨rfl,hb.block b' z,e2,λi1 u=>?_⟩;simp only[Gh.obj]at u;split at u
  ·grind
  ·exact e3 i1 u
 ·simp only[Gh.obj]at hi;split at hi
  ·rename_i e;subst e;simp only[Qo]at hi;subst hi;refine⟨Q_ h.size f,h.gz _ f,cur,T,hh,λo d hm=>?_⟩;exact(hc o d (ca o d hm)).2
  ·rename_i ma;obtain⟨p,q,cb,T',na,r⟩:=h.obj i' b' hi;refine⟨p,q,cb,T',(hb.block b' (h.lt hi)).trans na,λo d hm=>?_⟩;rw[aA ma]at hm;obtain⟨v,r1,r2,r3⟩:=r o d hm;exact⟨v,r1,r2,r3.ext x⟩
 ·simp only[Gh.obj]at u t;split at u<;>split at t
  ·simp_all
  ·simp only[Qo]at u;subst u;have:=h.lt t;omega
  ·simp only[Qo]at t;subst t;have:=h.lt u;omega
  ·exact h.inj _ _ _ u t
 ·simp only[Gh.obj]at k;split at k
  ·cases k
  ·rename_i ma;rw[aA ma]at hm;exact h.kind _ _ _ hm k
 ·obtain⟨ma,hi⟩:=a hi rfl;obtain⟨b1,n,c,sz,la,t1,t2,t3,t4,t5,t6,t7,t8,t9,ya⟩:=h.tok i' e hi;have z:b1<w.heap.size:=(QQ.1 t5).1;refine⟨b1,n,c,sz,la,t1,t2,t3,t4,(hb.block b1 z).trans t5,t6,t7,t8,t9,λi1 u=>?_⟩;simp only[Gh.obj]at u;split at u
  ·grind
  ·exact ya i1 u
 ·exact h.tinj _ _ _ _ _ _ _ (a u rfl).2 (a t rfl).2 l h4
end
section
variable{P:Program}{S:Ic}{f:FuncId}{N:Nat}{dc:DC}{rs:List RV}
def aBv(hS:Ic.ok P S)(hf:Fn P f N dc rs){F:List D->Option (List D)}(hN:∀ds r,F ds=some r->ds.length<=N)
  (hF:∀ds xs,F ds=some xs->(∀x∈flat xs,x.plain=true)∧dc.wp S [] (Ew rs λd m'=>∃t e,d= .slice false t xs∧t≠[]∧m' t 0=some (.tok (e+1))) ⟨BR ds,λ_ _=>none,0⟩):(LA F).ok P f:=by
 obtain⟨fn,ca,q,h2,h3,h4,h5,h6⟩:=hf.is;refine⟨⟨fn,q,by rw[h2];rfl,h3⟩,λds m m' fr _=>rfl,?_⟩;intro B w0 w m g fr ds vs r u hi fa z da y;simp only[LA]at y;split at y
 ·rename_i ha;rw[Qr]at y;obtain⟨xs,hr,y⟩:=y;simp only[Qy]at y;obtain⟨rfl,rfl⟩:=y;obtain⟨xa,bb⟩:=hF _ _ hr;have va:=OC P w hi.gz;have ea:∀(j:Nat) d v,(ds.map D.un)[j]?=some d->vs[j]?=some v->Im w (DM g.G) d v:=by
   intro j d v hd hv;have hc:=QA.1 ha d (Qx hd);rw[Q3,Qr]at hd;obtain⟨d',ta,rfl⟩:=hd;exact(da j d' v ta hv).un.calm_to hc (λ_ _=>rfl) (λ_=>QF _)
  have na:=Hw (B:=w.heap.size) (w0:=w) (w:=w) (g:=DM g.G) (ns:=[]) (m:=λ_ _=>none) (ds:=ds.map D.un) (vs:=vs) hS hf (hN _ _ hr) va (λk i _=>⟨λ_=>rfl,rfl,rfl⟩) XP ea bb;refine na.mono ?_;rintro e w' ⟨v,d,m',g',rfl,ia,ja,_,ab,t,e',rfl,ht,cb⟩;obtain⟨b,n,c,sz,cur,t1,t2,t3,t4,t5,t6,t7,t8,t9,ya⟩:=ia.tok t e' cb;rcases ab.slice_inv with ⟨h,_⟩|⟨_,ad,n',c',qa,vv,rfl,q1,q2,q3,q4,q5,q6,q7,q8,q9⟩
  ·cases h
  ·obtain⟨l,o,a⟩:=q8 ht;rw[t1]at a;simp only[Qo,Qy]at a;obtain⟨p,hn,hc,pa⟩:=a;have vb:ad=⟨b,0,none⟩:=by
    cases ad;simp only at p l o;subst p l o;rfl
   subst vb;subst hn hc pa;have wa:=Cx q3;obtain⟨i1,i2⟩:=hi.adopt ia.below (fa fr (Zy _)) t2 t5 (ds:=flat xs) (λj d hd=>by
    have s:j<n*sz:=by rw[q1,←wa];exact(QI.1 hd).1
    have hp:=xa d (Qx hd);have ga:=q4 j s;rw[Fg,QU]at ga;refine⟨hp,vv j,?_,q5 j s,(q6 j d hd).plain hp⟩;simpa[World.cell?,t5]using ga)
   refine⟨_,g.obj fr b,rfl,i1,i2,?_,λi hf ma=>Fz hf ma _ _⟩;rw[←q1];exact .row fr n c b q2 (by simp[Gh.obj])
 ·cases y
def aRK(m:Ig)(d r:D):Prop:=r=d.un∨∃i xs sz,d= .row i xs.length∧r= .slice false [] xs∧(∀x∈xs,x.calm=true∧x.cells.length=sz)∧∀(j:Nat) x,(flat xs)[j]?=some x->m i j=some x
def zI(p:D->D->Prop):List D->List D->Prop
 |[],[]=>True
 |c::cs,x::xs=>p c x∧zI p cs xs
 |_,_=>False
def aRJ(m:Ig)(d r:D):Prop:=aRK m d r∨∃cs xs,d= .agg cs∧r= .agg xs∧zI (aRK m) cs xs
def aYW(m:Ig)(d r:D):Prop:=(r.calm=true∧aRJ m d r)∨∃cs xs,d= .tup cs∧r= .tup xs∧zI (aRJ m) cs xs
def zI.get{p:D->D->Prop}:∀{cs xs:List D},zI p cs xs->cs.length=xs.length∧∀(j:Nat) c x,cs[j]?=some c->xs[j]?=some x->p c x
 |[],[],_=>⟨rfl,U⟩
 |c::cs,x::xs,h=>by
  obtain⟨u,q⟩:=h;obtain⟨a,b⟩:=zI.get q;refine⟨by simp[a],λj c' z k o=>?_⟩;cases j with
  |zero=>simp only[Qt,Qo]at k o;subst k o;exact u
  |succ j=>simp only[QC]at k o;exact b j c' z k o
 |[],_::_,h=>h.elim
 |_::_,[],h=>h.elim
def rF(hS:Ic.ok P S)(hf:Fn P f N dc rs){F:List D->Option D}(hN:∀ds r,F ds=some r->ds.length<=N)
  (hF:∀ds r,F ds=some r->r.calmR=true∧dc.wp S [] (Ew rs λd m'=>aYW m' d r) ⟨BR ds,λ_ _=>none,0⟩):(Af F).ok P f:=by
 obtain⟨fn,ca,q,t,o,h4,h5,h6⟩:=hf.is;refine⟨⟨fn,q,XL,o⟩,λds m m' fr _=>rfl,?_⟩;intro B w0 w m g fr ds vs r u hi fa hl da z;simp only[Af]at z;split at z
 ·rename_i n;rw[Qr]at z;obtain⟨r',hr,z⟩:=z;simp only[Qy]at z;obtain⟨rfl,rfl⟩:=z;obtain⟨qa,bb⟩:=hF _ _ hr;have va:=OC P w hi.gz;have ea:∀(j:Nat) d v,(ds.map D.un)[j]?=some d->vs[j]?=some v->Im w (DM g.G) d v:=by
   intro j d v hd hv;have hc:=QA.1 n d (Qx hd);rw[Q3,Qr]at hd;obtain⟨d',ta,rfl⟩:=hd;exact(da j d' v ta hv).un.calm_to hc (λ_ _=>rfl) (λ_=>QF _)
  have na:=Hw (B:=w.heap.size) (w0:=w) (w:=w) (g:=DM g.G) (ns:=[]) (m:=λ_ _=>none) (ds:=ds.map D.un) (vs:=vs) hS hf (hN _ _ hr) va (λk i _=>⟨λ_=>rfl,rfl,rfl⟩) XC ea bb;refine na.mono ?_;rintro e w' ⟨v,d,m',g',rfl,ia,ja,_,ab,sa⟩
  let G':Nat->Nat:=λb=>max (g'.G b) (match w'.heap[b]? with|some (.cells c _ _)=>c.size|_=>0)
  have y:∀b,g'.G b<=(g.glue w G').G b:=by
   intro b;simp only[Gh.glue];split
   ·rename_i aa;rw[ia.old b aa,ja.G0];exact QF _
   ·exact Nat.le_max_left ..
  have l:∀b,w'.heap.size<=b->G' b=0:=by
   intro b hb;simp only[G'];rw[Array.getElem?_eq_none hb,ia.gz b hb];rfl
  have hC:∀{d r:D} {v:Value},Im w' g' d v->aRK m' d r->r.calm=true->Im w' (g.glue w G') r v:=by
   intro d r v h hs hc;rcases hs with rfl|⟨i,xs,sz,rfl,rfl,p,hm⟩
   ·exact h.un.calm_to hc (λ_ _=>rfl) y
   ·obtain⟨b,cap,rfl,ra,hb⟩:=h.row_inv;obtain⟨kb,lb,cur,T,a,xa⟩:=ia.obj i b hb;have wa:=Cx λx h=>(p x h).2
    have db:∀(j:Nat),j<(flat xs).length->∃v,cur[j]?=some v∧v.oneCell'=true∧∃x,(flat xs)[j]?=some x∧Im w' g' x v:=by
     grind
    have pa:(flat xs).length<=cur.size:=by
     grind
    have n:∀x∈xs,x.calm=true:=λx h=>(p x h).1
    refine aH (sz:=sz) (cur:=cur) (vs:=cur.toList.take (flat xs).length) a rfl ra (λx h=>(p x h).2) ⟨Xc,λv hv=>?_,λj x v oa hv=>?_⟩ (λj v hv=>?_) ?_ (λh=>absurd rfl h) n
    ·obtain⟨j,s,rfl⟩:=Q8 hv;have ua:j<(flat xs).length:=Zr s (Zp _ _);obtain⟨v',r1,r2,_⟩:=db j ua;have:(cur.toList.take (flat xs).length)[j]?=some v':=by rw[QN ua];simpa using r1
     rw[Qp s]at this;rw[QP this];exact r2
    ·have ua:j<(flat xs).length:=(QI.1 oa).1;obtain⟨v',r1,r2,x',ga,r3⟩:=db j ua;rw[oa]at ga;obtain rfl:=QP ga;have:(cur.toList.take (flat xs).length)[j]?=some v':=by rw[QN ua];simpa using r1
     rw[hv]at this;obtain rfl:=QP this;exact r3.calm_to (O2 n x (Qx oa)) (λ_ _=>rfl) y
    ·grind
    ·rw[←wa];simp only[Gh.glue,G'];rw[if_neg O,a];exact Q_ pa (Nat.le_max_right ..)
  have hD:∀{d r:D} {v:Value},Im w' g' d v->aRJ m' d r->r.calm=true->Im w' (g.glue w G') r v:=by
   intro d r v h hs hc;rcases hs with hs|⟨cs,xs,rfl,rfl,hL⟩
   ·exact hC h hs hc
   ·obtain⟨us,rfl,k1,k2,k3⟩:=aG h;obtain⟨l1,l2⟩:=hL.get;refine .agg _ us (by rw[k1,l1]) k2 (λj x v p hv=>?_);have s:j<cs.length:=by rw[l1];exact(QI.1 p).1
    exact hC (k3 j _ v (Qp s) hv) (l2 j _ x (Qp s) p) (fP hc x (Qx p))
  refine⟨v,g.glue w G',rfl,hi.glue ia.below l,IF.glue hi.gz ia.below,?_,λi hf _=>hf⟩;rcases sa with ⟨hc,hs⟩|⟨cs,xs,rfl,rfl,hL⟩
  ·exact hD ab hs hc
  ·obtain⟨us,rfl,k1,k2⟩:=ab.tup_inv;obtain⟨l1,l2⟩:=hL.get;refine .tup _ us (by rw[k1,l1]) (λj x v p hv=>?_);have s:j<cs.length:=by rw[l1];exact(QI.1 p).1
   simp only[D.calmR,QA]at qa;exact hD (k2 j _ v (Qp s) hv) (l2 j _ x (Qp s) p) (qa x (Qx p))
 ·cases z
end
def aHx:D->Bool
 | .slice _ _ _=>true
 |_=>false
def F_:List D->Nat
 |[]=>0
 | .slice _ _ xs::r=>xs.length+F_ r
 |_::r=>F_ r
def fN:∀{L ys:List D},Ga L=some ys->ys.length=F_ L∧L.all aHx=true
 |[],ys,h=>by simp only[Ga,Qo]at h;subst h;exact⟨rfl,rfl⟩
 |x::r,ys,h=>by
  unfold Ga at h;split at h
  ·rename_i o;cases o
  ·rename_i nl t xs s o;cases o;rw[Qr]at h;obtain⟨zs,p,rfl⟩:=h;obtain⟨u,q⟩:=fN p;exact⟨by simp[F_,u],by simp[aHx,q]⟩
  ·cases h
def iL(sz:Nat)(d:D):Bool:=d.cells.length==sz
def lH{sz:Nat}{ys:List D}(h:ys.all (iL sz)=true):aE ys sz=sz:=by
 cases ys with
 |nil=>rfl
 |cons y r=>
  have:=QA.1 h y (Q0 ..);simpa[aE,iL]using this
def bAU{n bytes:Nat}(i:bytes<=1000000)(f:n<=100000):n*(bytes+1)<=140737488355328:=Q_ (Nat.mul_le_mul f (Nat.succ_le_succ i)) O
def aCR{m:Ig}{e:Nat}{fr t:Id}{nl:Bool}{xs:List D}:Ir.app m (Bm e fr (.slice nl t xs)) fr 0=some (.tok (e+1)):=by
 cases nl<;>simp[Bm,Ir.app,BK]
def NA(pt:Nat):DC:=(.seq (.row [⟨some 12,.bin .lss (.t 11) (.t 10),[],none⟩]) (.seq (.cond (.t 12) .skip (.exit 0)) (.seq (.block 1 (.seq (.row [⟨some 13,.iaddr 1 (.t 9) (.t 11),[],none⟩,⟨some 14,.load none (.t 13),[],none⟩,⟨some 5,.mv (.t 14),[],none⟩]) (.seq (.row [⟨some 15,.mv (.t 3),[],none⟩,⟨some 16,.mv (.t 5),[],none⟩,⟨some 17,.len false (.t 16),[],none⟩,⟨some 18,.bin .add (.t 15) (.t 17),[],none⟩,⟨some 3,.mv (.t 18),[],none⟩]) (.seq (.row [⟨some 19,.mv (.t 3),[],none⟩,⟨some 20,.bin .lss (.t 19) (.c (.int .i64 0)),[],none⟩]) (.cond (.t 20) (.row [⟨some 21,.mkif pt (.c (.str [108,101,110,32,111,117,116,32,111,102,32,114,97,110,103,101])),[],none⟩,⟨none,.stop,[],none⟩]) .skip))))) (.row [⟨some 22,.bin .add (.t 11) (.c (.int .i64 1)),[],none⟩,⟨some 11,.mv (.t 22),[],none⟩]))))
def Nz(e sz bytes:Nat):DC:=(.seq (.row [⟨some 28,.bin .lss (.t 27) (.t 26),[],none⟩]) (.seq (.cond (.t 28) .skip (.exit 2)) (.seq (.block 3 (.seq (.row [⟨some 29,.iaddr 1 (.t 25) (.t 27),[],none⟩,⟨some 30,.load none (.t 29),[],none⟩,⟨some 8,.mv (.t 30),[],none⟩]) (.row [⟨some 31,.mv (.t 6),[],none⟩,⟨some 32,.mv (.t 8),[],none⟩,⟨some 33,.app e sz bytes (.t 31) (.t 32),[],none⟩,⟨some 6,.mv (.t 33),[],none⟩]))) (.row [⟨some 34,.bin .add (.t 27) (.c (.int .i64 1)),[],none⟩,⟨some 27,.mv (.t 34),[],none⟩]))))
def Hu(pt e sz bytes d:Nat):DC:=(.seq (.row [⟨some 2,.mv (.c (.slice true [] [])),[],none⟩]) (.seq (.row [⟨some 3,.mv (.c (.int .i64 0)),[],none⟩]) (.seq (.seq (.row [⟨some 9,.mv (.t 0),[],none⟩,⟨some 10,.len false (.t 9),[],none⟩,⟨some 11,.mv (.c (.int .i64 0)),[],none⟩]) (.block 0 (.loop (NA pt)))) (.seq (.row [⟨some 23,.mv (.t 3),[],none⟩,⟨some 24,.call (.c (.fn d [])) [(.c (.slice true [] [])),(.t 23)],[],none⟩,⟨some 6,.mv (.t 24),[],none⟩]) (.seq (.seq (.row [⟨some 25,.mv (.t 0),[],none⟩,⟨some 26,.len false (.t 25),[],none⟩,⟨some 27,.mv (.c (.int .i64 0)),[],none⟩]) (.block 2 (.loop (Nz e sz bytes)))) (.seq (.row [⟨some 35,.mv (.t 6),[],none⟩,⟨some 2,.mv (.t 35),[],none⟩]) .ret))))))
def aCb{pt:Nat}{S:Ic}{ns:Id}{L:List D}{nl:Bool}{t:Id}{Q:Ex->St->Prop}(i:L.length<=1000)(ca:L.all aHx=true)
  (e:∀(z:St),z.s 0= .slice nl t L->z.s 3= .int .i64 (F_ L:Nat)->Q (.exit 0) z):
  ∀(R:List D)(k a:Nat) z g,L.drop k=R->k<=L.length->a+F_ R=F_ L->F_ L<=1000000->z.s 0= .slice nl t L->z.s 9= .slice nl t L->z.s 10= .int .i64 (L.length:Nat)->z.s 11= .int .i64 (k:Nat)->z.s 3= .int .i64 (a:Nat)->
   A2 S ns (NA pt) Q z g:=by
 intro R;induction R with
 |nil=>
  intro k a z g l j q hm r n la y o;refine Ae (NA.eq_1 pt) ?_;have u:L.length<=k:=XQ
  have:¬((k:Int)<L.length):=O
  simp only[↓C2,Ih,Ii,reduceIte,Qu,la,y,this];refine e _ ?_ ?_
  ·simp only[↓C2,reduceIte,Qv,r]
  ·simp only[↓C2,reduceIte,Qv,o];simp only[F_]at q;rw[←q];rfl
 |cons x R ih=>
  intro k a z g l j q hm r n la y o;refine Ae (NA.eq_1 pt) ?_;have w:k<L.length:=by
   grind
  have f:L[k]?=some x:=by
   have:=congrArg (·[0]?) l;simpa using this
  have p:aHx x=true:=QA.1 ca x (Qx f);have wa:L.drop (k+1)=R:=by
   rw[←ZF,l];rfl
  match x,p with
  | .slice nl' t' xs,_=>
   have v:((k:Int)<L.length):=O
   have oa:(0:Int)<=(k:Int):=O
   have b:L[(k:Int).toNat]?=some (.slice nl' t' xs):=by simpa using f
   simp only[F_]at q;have w1:IntKind.i64.wrap ((a:Int)+(xs.length:Int))=((a+xs.length:Nat):Int):=YH
   have w2:IntKind.i64.wrap ((k:Int)+1)=((k+1:Nat):Int):=YH
   have c:¬(((a+xs.length:Nat):Int)<0):=O
   simp only[↓C2,Ij,reduceIte,Qv,Qu,n,la,y,o,v,oa,b,w1,w2,c];exact ih (k+1) (a+xs.length) _ _ wa O O hm r n la rfl rfl
def aCa{e sz bytes:Nat}(cb:bytes<=1000000){S:Ic}{ns:Id}{L:List D}{nl0:Bool}{t0:Id}{Q:Ex->St->Prop}(i:L.length<=1000)
  (w:∀(z:St)(nl:Bool)(t:Id)(ys:List D),Ga L=some ys->z.s 6= .slice nl t ys->(nl=true->ys=[])->L8 z.m e (.slice nl t ys)->Q (.exit 2) z):
  ∀(R:List D)(k:Nat)(q zs:List D)(nl:Bool)(t:Id) z g,L.drop k=R->k<=L.length->Ga R=some zs->Ga L=some (q++zs)->(q++zs).all (iL sz)=true->(q++zs).length<=100000->
   (nl=true->q=[])->L8 z.m e (.slice nl t q)->
   z.s 6= .slice nl t q->z.s 25= .slice nl0 t0 L->z.s 26= .int .i64 (L.length:Nat)->z.s 27= .int .i64 (k:Nat)->
   A2 S ns (Nz e sz bytes) Q z g:=by
 intro R;induction R with
 |nil=>
  intro k q zs nl t z g u j hz hL l p c d h6 ra n ma;refine Ae (Nz.eq_1 e sz bytes) ?_;have r:L.length<=k:=Xx
  have:¬((k:Int)<L.length):=O
  simp only[Ga,Qo]at hz;subst hz;simp only[↓C2,Ih,Ii,reduceIte,Qu,n,ma,this];refine w _ nl t q (by simpa using hL) ?_ c d;simp only[↓C2,reduceIte,Qv,h6]
 |cons x R ih=>
  intro k q zs nl t z g u j hz hL l p c d h6 ra n ma;refine Ae (Nz.eq_1 e sz bytes) ?_;have sa:k<L.length:=by
   grind
  have f:L[k]?=some x:=by
   have:=congrArg (·[0]?) u;simpa using this
  have wa:L.drop (k+1)=R:=by
   rw[←ZF,u];rfl
  unfold Ga at hz;split at hz
  ·rename_i o;cases o
  ·rename_i nl' t' xs R' o;cases o;rw[Qr]at hz;obtain⟨a,pa,rfl⟩:=hz;have v:((k:Int)<L.length):=by omega
   have oa:(0:Int)<=(k:Int):=O
   have b:L[(k:Int).toNat]?=some (.slice nl' t' xs):=by simpa using f
   have w2:IntKind.i64.wrap ((k:Int)+1)=((k+1:Nat):Int):=YH
   simp only[↓C2,Ij,reduceIte,Qv,Qu,h6,ra,n,ma,v,oa,b];have y:(if nl=true then xs else q++xs)=q++xs:=BN c;refine aD (λhc=>?_) (λhc=>?_)
   ·obtain⟨rfl,rfl⟩:=hc;obtain rfl:=c rfl;simp only[↓C2,Ih,IM,reduceIte,Qv,Qu,ma,w2];exact ih (k+1) [] a true [] _ _ wa O pa (by simpa using hL) XQ (by simpa using p) (λ_=>rfl) (.inl rfl) rfl ra n rfl
   ·have ib:xs.all (iL sz)=true:=by
     rw[ZP,ZP]at l;simp only[QT]at l;exact l.2.1
    refine AF.intro ⟨bAU cb (by simp only[Zd]at p;omega),lH ib,d⟩ ?_;rw[y];simp only[↓C2,Ih,IM,reduceIte,Qv,Qu,ma,w2];refine ih (k+1) (q++xs) a false _ _ _ wa O pa (by simpa using hL) XQ (by simpa using p) (λh=>Xd) (.inr ⟨aCR,U⟩) rfl ra n rfl
  ·cases hz
def U4(sz:Nat):List D->Option (List D)
 |[.slice _ _ L]=>match Ga L with
  |some ys=>if L.length<=1000∧0<ys.length∧ys.length<=100000∧ys.all (iL sz)=true then some ys else none
  |none=>none
 |_=>none
def SY{P:Program}{f d pt e sz bytes:Nat}(i:bytes<=1000000){S:Ic}(v:S d=some (En e)){L ys:List D}{nl:Bool}{t:Id}(nb:Ga L=some ys)(j:L.length<=1000)(c2:0<ys.length)(g:ys.length<=100000)(u:ys.all (iL sz)=true)
  {R:D->Ig->Prop} (s:∀t m,L8 m e (.slice false t ys)->R (.slice false t ys) m):(Hu pt e sz bytes d).wp S [] (Ew [.t 2] R) ⟨BR [.slice nl t L],λ_ _=>none,0⟩:=by
 obtain⟨w,x⟩:=fN nb;unfold Hu;simp only[↓C2,Ih,reduceIte,Qv,Qu];refine aCb j x (λz r o=>?_) L 0 0 _ _ rfl O U O rfl rfl rfl rfl rfl;simp only[↓C2,Ih,Ii,reduceIte,Qu,o];rw[AN v];have n:(En e).ex ([D.slice true [] [],D.int IntKind.i64 (F_ L:Nat)]++[]) z.m [z.c+1]=some (.slice false [0,z.c+1] [],[([0,z.c+1],0,[.tok (e+1)])]):=by
  grind [En]
 refine aI n ?_;simp only[↓C2,Ih,reduceIte,Qv,Qu,r];refine aCa i j (λla nl' l zs p q hn b=>?_) L 0 [] ys false _ _ _ rfl O nb (by simpa using nb) Xx XS (λh=>Xd) (.inr ⟨?_,U⟩) rfl r rfl rfl
 ·rw[nb]at p;simp only[Qo]at p;subst p;have ta:nl'=false:=by
   grind
  subst ta;simp only[↓C2,Ih,reduceIte,Qv,Qu,q];exact s _ _ b
 ·simp[BK]
section
variable{P:Program}{f gf pt e sz bytes:Nat}
def Ti{ds ys:List D}(h:U4 sz ds=some ys):∃nl t L,ds=[.slice nl t L]∧Ga L=some ys∧L.length<=1000∧0<ys.length∧ys.length<=100000∧ys.all (iL sz)=true:=by
 unfold U4 at h;split at h
 ·grind
 ·cases h
def gS(d e:Nat):Ic:=λf=>if f=d then some (En e)else none
def aLY(n:(En e).ok P gf):Ic.ok P (gS gf e):=by
 intro f q h;unfold gS at h;split at h
 ·simp_all
 ·cases h
def aHY(k:Fn P f 36 (Hu pt e sz bytes gf) [.t 2])(i:bytes<=1000000)(n:(En e).ok P gf):(LA λds=>(U4 sz ds).bind λys=>if(flat ys).all D.plain=true then some ys else none).ok P f:=by
 refine aBv (aLY n) k (λds r h=>?_) (λds r h=>?_)
 ·rw[QH]at h;obtain⟨ys,h,_⟩:=h;obtain⟨nl,t,L,rfl,_⟩:=Ti h;simp
 ·rw[QH]at h;obtain⟨ys,h,q⟩:=h;split at q
  ·rename_i g;simp only[Qo]at q;subst q;obtain⟨nl,t,L,rfl,l,j,c2,v,b⟩:=Ti h;refine⟨λx p=>QA.1 g x p,SY (P:=P) (f:=f) i (by simp[gS]) l j c2 v b λt m o=>?_⟩;rcases o with h|⟨u,q⟩
   ·cases h
   ·exact⟨t,e,rfl,q,u⟩
  ·cases q
def sD(k:Fn P f 36 (Hu pt e sz bytes gf) [.t 2])(i:bytes<=1000000)(n:(En e).ok P gf){F:List D->Option D}
  (g:∀ds r,F ds=some r->∃nl t L ys,ds=[.slice nl t L]∧Ga L=some ys∧L.length<=1000∧0<ys.length∧ys.length<=100000∧ys.all (iL sz)=true∧r= .slice false [] ys):(Af F).ok P f:=by
 refine AD (aLY n) k (λds r h=>?_) (λds r h=>?_)
 ·grind
 ·obtain⟨nl,t,L,ys,rfl,l,j,c2,p,u,rfl⟩:=g ds r h;exact SY (P:=P) (f:=f) i (by simp[gS]) l j c2 p u λt m o=>⟨rfl,rfl⟩
end
def H_(n:Nat):UInt8:=if n<10 then UInt8.ofNat (48+n)else UInt8.ofNat (87+n)
def Lj(s:List UInt8):List UInt8:=s.flatMap λb=>[H_ (b.toNat / 16),H_ (b.toNat % 16)]
theorem F4:∀s:List UInt8,(Lj s).length=2*s.length
 |[]=>rfl
 |b::r=>by
  have:=F4 r;simp only[Lj,List.flatMap_cons,Zd,QJ,QO]at this ⊢;omega
theorem Dw(a b:List UInt8):Ax (a++b)=Ax a++Ax b:=by simp[Ax]
def BS(a:List UInt8):(Ax a).length=a.length:=by simp[Ax]
def Cy:∀a:List UInt8,BQ (Ax a)=some a
 |[]=>rfl
 |c::r=>by
  have h:=c.toNat_lt;show(BQ (Ax r)).map _=_;rw[Cy r];simp
def Np:∀n,n<16->([48,49,50,51,52,53,54,55,56,57,97,98,99,100,101,102]:List UInt8)[n]?=some (H_ n):=Xp
def aYU:∀n:Nat,n<256->bits .and .u8 (n:Int) 15=((n % 16:Nat):Int):=Xp
def aZM:∀n:Nat,n<256->(n:Int).fdiv (2 ^ min (4:Int).toNat IntKind.u8.bits)=((n / 16:Nat):Int):=Xp
def UJ(s:List UInt8)(c:UInt8):Lj (s++[c])=Lj s++[H_ (c.toNat / 16),H_ (c.toNat % 16)]:=by simp[Lj]
def Cg:List (List UInt8)->Nat
 |[]=>0
 |w::r=>w.length+Cg r
def Tn(m:Ig)(i:Id):Nat->Nat->Option (List (List UInt8))
 |0,_=>some []
 |f+1,j=>match m i j,Tn m i f (j+1)with
  |some (.str p),some l=>some (p::l)
  |_,_=>none
def TV{m:Ig}{i:Id}:∀{f j:Nat} {xs:List (List UInt8)},Tn m i f j=some xs->xs.length=f∧∀k x,xs[k]?=some x->m i (j+k)=some (.str x)
 |0,j,xs,h=>by
  simp only[Tn,Qo]at h;subst h;exact⟨rfl,U⟩
 |f+1,j,xs,h=>by
  unfold Tn at h;split at h
  ·rename_i p l e1 e2;simp only[Qo]at h;subst h;obtain⟨s,t⟩:=TV e2;refine⟨by simp[s],λk x o=>?_⟩;cases k with
   |zero=>simp only[Qt,Qo]at o;subst o;exact e1
   |succ k=>
    have:=t k x Xy;rw[show j+1+k=j+(k+1)by omega]at this;exact this
  ·cases h
def cK{m m':Ig}{i:Id}:∀{f j n:Nat},j+f<=n->(∀o,o<n->m i o=m' i o)->Tn m i f j=Tn m' i f j
 |0,j,n,_,_=>rfl
 |f+1,j,n,hn,h=>by
  unfold Tn;rw[h j O,cK (f:=f) (j:=j+1) O h]
def pD{m:Ig}{i:Id}:∀{xs:List (List UInt8)} {j:Nat},(∀k x,xs[k]?=some x->m i (j+k)=some (.str x))->Tn m i xs.length j=some xs
 |[],j,_=>rfl
 |x::r,j,h=>by
  have f:=h 0 x rfl;have q:=pD (xs:=r) (j:=j+1) (λk y d=>by have:=h (k+1) y X1;rw[show j+1+k=j+(k+1)by omega];exact this);simp only[QJ,Tn,Zz]at f ⊢;rw[f,q]
def BW:List (List UInt8)->List UInt8
 |[]=>[]
 |[w]=>w
 |w::v::r=>w++44::BW (v::r)
def EK:∀l:List (List UInt8),(BW l).length<=Cg l+l.length
 |[]=>by simp[BW]
 |[w]=>by simp[BW,Cg]
 |w::v::r=>by
  have:=EK (v::r);simp only[BW,Zd,QJ,Cg]at this ⊢;omega
def SB:∀l:List (List UInt8),Lib.join l [44]=BW l
 |[]=>rfl
 |[w]=>Lib.join_one w [44]
 |w::v::r=>by
  have ih:=SB (v::r);rw[Lib.join_cons]at ih;rw[Lib.join_cons,BW,←ih];simp[Lib.joinTail]
def UH:IS where
 rd:=λds _=>match ds with
  |[.row i n,_]=>(Z0 n).map λo=>(i,o)
  |_=>[]
 ex:=λds m _=>match ds with
  |[.row i n,.str [44]]=>(Tn m i n 0).bind λl=>if l.length<=1000∧Cg l<=1000000 then some (.str (BW l),[])else none
  |_=>none
def aCw {P:Program} {ρ:Go.Shelf.Ren} (L:Go.Proofs.Lays.n156 P ρ) (X:Go.Proofs.Builder.Extra P ρ) (ma:∃fn,P.funcs[ρ.f 156]?=some fn∧fn.body.isSome=true∧(fn.name== "runtime.NumGoroutine")=false):UH.ok P (ρ.f 156):=by
 refine⟨ma,λds m m' fr h=>?_,?_⟩
 ·simp only[UH]at h ⊢;split
  ·rename_i i n;simp only at h;rw[cK (m:=m) (m':=m') (n:=n) O λo ho=>h (i,o) (QV.2 ⟨o,by simpa using ho,rfl⟩)]
  ·rfl
 intro B w0 w m g fr ds vs r u hi fa hl t y;simp only[UH]at y;split at y
 ·rename_i i n;rw[QH]at y;obtain⟨l,qa,y⟩:=y;split at y
  ·rename_i hc;obtain⟨c1,c2⟩:=hc;simp only[Qo,Qy]at y;obtain⟨rfl,rfl⟩:=y
   match vs,hl with
   |[v,v1],_=>
    have h0:=t 0 _ v rfl rfl;have q:=t 1 _ v1 rfl rfl;rw[q.str_inv];obtain⟨b,c,rfl,va,hb⟩:=h0.row_inv;obtain⟨d,ea⟩:=TV qa;obtain⟨kb,lb,cur,T,a,xa⟩:=hi.obj i b hb;have ga:∀(j:Nat) z,l[j]?=some z->w.cell? ⟨b,0+j,none⟩=some (.string ⟨z.toArray⟩):=by
     intro j z hz;have hm:=ea j z hz;rw[QU]at hm;obtain⟨v',r1,r2,r3⟩:=xa j _ hm;rw[r3.str_inv]at r1;simp[World.cell?,a,r1]
    have s:(l.map λx=>(⟨x.toArray⟩:ByteArray)).map (·.data.toList)=l:=YQ
    have k:(⟨#[44]⟩:ByteArray).data.toList=[44]:=rfl;have ya:=EK l;have:=Go.Proofs.Any.strings_Join L X b 0 c (l.map λx=>(⟨x.toArray⟩:ByteArray)) ⟨#[44]⟩ w (λj x p=>by
     rw[Q3,Qr]at p;obtain⟨z,hz,rfl⟩:=p;exact ga j z hz) (hi.lt hb) Xc Xc (by rw[s,k,SB];omega)
    rw[s,k,SB,Qw,d]at this;refine this.mono ?_;rintro ev w' ⟨rfl,hb⟩;exact⟨_,g.over w w',rfl,hi.over hb,IF.over hi.gz hb,.str _,λi e _=>e⟩
  ·cases y
 ·cases y
theorem FP{a:Act}{t:Nat}{d:Option Tmp}{v:Value}(h:d≠some t):(a.put d v).tmps[t]?=a.tmps[t]?:=by
 cases d with
 |none=>rfl
 |some k=>
  have j:k≠t:=λe=>h (by rw[e])
  simp only[Act.put];rw[Zo];rw[if_neg j]
def NV{P:Program}{ops:Array Oper}{t:Nat}{x:Option Value}{Q:Exit->Act->World->Prop}(f:∀(i:Nat) o,ops[i]?=some o->o.dst≠some t):∀(l:List Nat)(a:Act)(w:World),
  a.tmps[t]?=x->wpOps P ops Q l a w->wpOps P ops (λe y n=>Q e y n∧(e= .normal->y.tmps[t]?=x)) l a w
 |[],a,w,hx,h=>⟨h,λ_=>hx⟩
 |i::l,a,w,hx,h=>by
  have ih:=NV (P:=P) (Q:=Q) (x:=x) f l;simp only[wpOps]at h ⊢;cases ho:ops[i]? with
  |none=>rw[ho]at h;exact ih a w hx h
  |some o=>
   rw[ho]at h;simp only at h ⊢;have k:=f i o ho;split at h
   ·rename_i d;rw[if_pos d];rcases h with h|⟨u,q⟩
    ·left;unfold Oper.wp at h ⊢;revert h;generalize (execOp a.eval o).run P w=r;intro h;unfold Oper.upon at h ⊢;split at h
     ·grind [FP]
     ·grind [FP]
     ·grind [FP]
     ·refine h.mono (λe n j=>?_);cases e with
      |returned v=>exact ih _ _ YJ j
      |panicked c=>exact⟨j,λe=>nomatch e⟩
      |outgrown=>obtain⟨b,w0,m⟩:=j;exact⟨b,w0,m,λe=>nomatch e⟩
     ·exact h.mono (λv n j=>ih _ _ YJ j)
     ·exact⟨h,λe=>nomatch e⟩
     ·exact h.elim
    ·right;obtain⟨b,w0,m⟩:=q;exact⟨u,b,w0,m,λe=>nomatch e⟩
   ·rename_i d;rw[if_neg d];exact ih _ _ YJ h
def D5(t:Nat):Code->Bool
 | .region _ ops _=>ops.toList.all λo=>o.dst !=some t
 | .seq a b=>D5 t a&&D5 t b
 | .cond _ a b=>D5 t a&&D5 t b
 | .block _ c=>D5 t c
 | .loop c=>D5 t c
 |_=>true
section
variable{P:Program}{B:Nat}{w0:World}{N:Nat}{ns:Id}{S:Ic}{t:Nat}
def UF{ops:Array Oper}(h:(ops.toList.all λo=>o.dst !=some t)=true)(i:Nat)(o:Oper)(r:ops[i]?=some o):o.dst≠some t:=by
 grind
def aC8(hS:Ic.ok P S):∀(ca:Code)(dc:DC),AM P N ca=some dc->D5 t ca=true->∀(st:St)(e:Ex)(la:St),Ev S ns dc st e la->∀(a:Act)(w:World)(g:Gh),Holds P B w0 N ns st a w g->
  ca.wp P (λe' a' w'=>oI P B w0 N ns st w g e la e' a' w'∧a'.tmps[t]?=a.tmps[t]?) a w:=by
 intro ca;induction ca with
 |skip=>
  intro dc aa hk st e la ha a w g hx;simp only[AM,Qo]at aa;subst aa;obtain⟨rfl,rfl⟩:=ha;exact wp_skip ⟨⟨rfl,g,hx,IF.refl w g,FF.refl _ _ _⟩,rfl⟩
 |ret=>
  intro dc aa hk st e la ha a w g hx;simp only[AM,Qo]at aa;subst aa;obtain⟨rfl,rfl⟩:=ha;exact wp_ret ⟨⟨rfl,g,hx,IF.refl w g,FF.refl _ _ _⟩,rfl⟩
 |exit i=>
  intro dc aa hk st e la ha a w g hx;simp only[AM,Qo]at aa;subst aa;obtain⟨rfl,rfl⟩:=ha;exact wp_exit ⟨⟨rfl,g,hx,IF.refl w g,FF.refl _ _ _⟩,rfl⟩
 |region id ops v=>
  intro dc aa hk st e la ha a w g hx;cases v with
  |false=>
   simp only[AM,Qr]at aa;obtain⟨da,fa,rfl⟩:=aa;obtain⟨rfl,he,hc⟩:=ha;rw[L_,L0 S ns st.c da da 0 _ _ rfl,←Zm]at he;have hl:da.length=ops.size:=by simpa using (CS fa).1
   have h0:below 0=λ_=>false:=Yi
   refine wp_mono (wp_region (NV (x:=a.tmps[t]?) (Q:=oI P B w0 N ns st w g .normal la) (UF hk) _ a w rfl ?_)) (λe' a' w' h=>⟨h.1,h.2 h.1.1⟩);rw[←hl];refine EW hS fa (Z0 da.length) (below 0) st.s st.m a w g la.s la.m ?_ he (hx.start _) (λa' w' g' h1 h2 h3=>⟨rfl,g',?_,h2,h3⟩)
   ·rw[Zm];exact SO _ 0
   ·rw[Zm,Pz]at h1;rw[QU]at h1;unfold Holds;rw[hc,Qw];exact h1.done
  |true=>
   simp only[AM]at aa;obtain⟨da,ba,fa,hb,hs,ia,rfl⟩:=CU aa;obtain⟨rfl,⟨f,he,hf⟩,hc⟩:=ha;rw[H4]at he;refine wp_mono (wp_region_draw (λu=>NV (x:=a.tmps[t]?) (Q:=oI P B w0 N ns st w g .normal la) (UF hk) _ a _ rfl ?_)) (λe' a' w' h=>⟨h.1,h.2 h.1.1⟩);obtain⟨g1,g2⟩:=MP fa hb ia (P.follows .mixedOrders) u;have q:=R5 (c:=st.c) (ns:=ns) hS hb hs he hf g1 g2;have oa:InS P B w0 N ns st.c st.s st.m a w.drew g:=⟨hx.inv.drew,λt=>(hx.slots t).ext (IF.drew w g),hx.size,hx.defers,hx.fresh⟩;refine EW hS fa _ (λ_=>false) st.s st.m a w.drew g la.s la.m (OV g1) q (oa.start _) (λa' w' g' h1 h2 h3=>⟨rfl,g',?_,(IF.drew w g).trans h2,h3⟩);unfold Holds;rw[hc,Qw];rw[g2]at h1;exact h1.done
 |seq x y ra qa=>
  intro dc aa hk st e la ha a w g hx;simp only[D5,QT]at hk;simp only[AM]at aa;split at aa
  ·rename_i dx dy h1 h2;simp only[Qo]at aa;subst aa;obtain⟨e1,ga,d,l⟩:=ha;have bb:=ra dx h1 hk.1 st e1 ga d a w g hx;refine wp_seq (wp_mono bb ?_);rintro e' a' w' ⟨⟨rfl,g',hh,ja,b⟩,ea⟩;rcases l with ⟨rfl,ta⟩|⟨ma,rfl,rfl⟩
   ·exact wp_mono (qa dy h2 hk.2 ga e la ta a' w' g' hh) (λwa xa ua h=>⟨h.1.trans ja b,h.2.trans ea⟩)
   ·cases e with
    |normal=>exact absurd rfl ma
    |ret=>exact⟨⟨rfl,g',hh,ja,b⟩,ea⟩
    |exit i=>exact⟨⟨rfl,g',hh,ja,b⟩,ea⟩
  ·cases aa
 |cond c x y ra qa=>
  intro dc aa hk st e la ha a w g hx;simp only[D5,QT]at hk;simp only[AM]at aa;split at aa
  ·rename_i k dx dy h0 h1 h2;simp only[Qo]at aa;subst aa;have hc:=hx.slots.arg h0;rcases ha with ⟨ht,ha⟩|⟨ht,ha⟩
   ·rw[ht]at hc;exact wp_cond_true hc.bool_inv (ra dx h1 hk.1 st e la ha a w g hx)
   ·rw[ht]at hc;exact wp_cond_false hc.bool_inv (qa dy h2 hk.2 st e la ha a w g hx)
  ·cases aa
 |block i c ih=>
  intro dc aa hk st e la ha a w g hx;simp only[D5]at hk;simp only[AM,Qr]at aa;obtain⟨k,h1,rfl⟩:=aa;obtain⟨e1,d,l⟩:=ha;refine wp_block (wp_mono (ih k h1 hk st e1 la d a w g hx) ?_);rintro e' a' w' ⟨⟨rfl,g',hh,ja,b⟩,ea⟩;rcases l with ⟨rfl,rfl⟩|⟨ma,rfl⟩
  ·simp only[Ex.toExit,Exit.inBlock,if_true];exact⟨⟨rfl,g',hh,ja,b⟩,ea⟩
  ·cases e with
   |normal=>exact⟨⟨rfl,g',hh,ja,b⟩,ea⟩
   |ret=>exact⟨⟨rfl,g',hh,ja,b⟩,ea⟩
   |exit j=>
    simp only[Ex.toExit,Exit.inBlock];rw[if_neg (λe=>ma (by rw[e]))];exact⟨⟨rfl,g',hh,ja,b⟩,ea⟩
 |loop c ih=>
  intro dc aa hk st e la ha a w g hx;simp only[D5]at hk;simp only[AM,Qr]at aa;obtain⟨k,h1,rfl⟩:=aa;obtain⟨n,o⟩:=ha;refine Ma (λn a' w'=>∃ga g1,Holds P B w0 N ns ga a' w' g1∧IF w g w' g1∧FF ns st.m g ga.m g1∧Lp (Ev S ns k) n ga e la∧a'.tmps[t]?=a.tmps[t]?) ?_ ⟨st,g,hx,IF.refl w g,FF.refl _ _ _,o,rfl⟩;rintro n a1 w1 ⟨ga,g1,hh,ja,b,sa,ea⟩;cases sa with
  |stop _ _ _ hr ma=>
   refine wp_mono (ih k h1 hk ga e la hr a1 w1 g1 hh) ?_;rintro e' a' w' ⟨hp,va⟩;have ka:=hp.trans ja b;obtain⟨rfl,_⟩:=hp;cases e with
   |normal=>exact absurd rfl ma
   |ret=>exact⟨ka,va.trans ea⟩
   |exit i=>exact⟨ka,va.trans ea⟩
  |more n' _ pa _ _ hr z=>
   refine wp_mono (ih k h1 hk ga .normal pa hr a1 w1 g1 hh) ?_;rintro e' a' w' ⟨⟨rfl,g',na,r,p⟩,va⟩;exact⟨n',Nat.lt_succ_self _,pa,g',na,ja.trans r,b.trans p,z,va.trans ea⟩
 |_=>
  intro dc aa;simp[AM]at aa
end
section
variable{P:Program}{S:Ic}{f:FuncId}{N:Nat}{dc a b:DC}{rs:List RV}{code:Code}
def HF(h:AM P N code=some (.seq a b)):∃x y,code= .seq x y∧AM P N x=some a∧AM P N y=some b:=by
 cases code with
 |seq x y=>
  simp only[AM]at h;split at h
  ·grind
  ·cases h
 |region i ops d=>
  cases d with
  |false=>simp[AM]at h
  |true=>
   simp only[AM]at h;obtain⟨_,_,_,_,_,_,h⟩:=CU h;cases h
 |cond c x y=>
  simp only[AM]at h;split at h
  ·simp at h
  ·cases h
 |_=>simp[AM]at h
def bZ{i:Nat}(h:AM P N code=some (.block i a)):∃x,code= .block i x∧AM P N x=some a:=by
 cases code with
 |block j x=>
  simp only[AM,Qr,DC.block.injEq]at h;obtain⟨c,u,rfl,rfl⟩:=h;exact⟨x,rfl,u⟩
 |region i ops d=>
  cases d with
  |false=>simp[AM]at h
  |true=>
   simp only[AM]at h;obtain⟨_,_,_,_,_,_,h⟩:=CU h;cases h
 |cond c x y=>
  simp only[AM]at h;split at h
  ·simp at h
  ·cases h
 |seq x y=>
  simp only[AM]at h;split at h
  ·simp at h
  ·cases h
 |_=>simp[AM]at h
def aFV(h:AM P N code=some (.loop a)):∃x,code= .loop x∧AM P N x=some a:=by
 cases code with
 |loop x=>
  simp only[AM,Qr,DC.loop.injEq]at h;obtain⟨c,u,rfl⟩:=h;exact⟨x,rfl,u⟩
 |region i ops d=>
  cases d with
  |false=>simp[AM]at h
  |true=>
   simp only[AM]at h;obtain⟨_,_,_,_,_,_,h⟩:=CU h;cases h
 |cond c x y=>
  simp only[AM]at h;split at h
  ·simp at h
  ·cases h
 |seq x y=>
  simp only[AM]at h;split at h
  ·simp at h
  ·cases h
 |_=>simp[AM]at h
def aFW{c:Ip}(h:AM P N code=some (.cond c a b)):∃o x y,code= .cond o x y∧AK o=some c∧AM P N x=some a∧AM P N y=some b:=by
 cases code with
 |cond o x y=>
  simp only[AM]at h;split at h
  ·grind
  ·cases h
 |region i ops d=>
  cases d with
  |false=>simp[AM]at h
  |true=>
   simp only[AM]at h;obtain⟨_,_,_,_,_,_,h⟩:=CU h;cases h
 |seq x y=>
  simp only[AM]at h;split at h
  ·simp at h
  ·cases h
 |_=>simp[AM]at h
def aPX{ops:List DOper}(h:AM P N code=some (.row ops)):∃i os f,code= .region i os false∧DA P N os.toList=some f∧ops=f.map DOper.strip:=by
 cases code with
 |region i os d=>
  cases d with
  |false=>
   simp only[AM,Qr,DC.row.injEq]at h;obtain⟨f,u,rfl⟩:=h;exact⟨i,os,f,rfl,u,rfl⟩
  |true=>
   simp only[AM]at h;obtain⟨_,_,_,_,_,_,h⟩:=CU h;cases h
 |cond c x y=>
  simp only[AM]at h;split at h
  ·simp at h
  ·cases h
 |seq x y=>
  simp only[AM]at h;split at h
  ·simp at h
  ·cases h
 |_=>simp[AM]at h
def pX{ops:Array Oper}{Q:Exit->Act->World->Prop}{l2:List Nat}:∀(l:List Nat)(a:Act)(w:World),
  wpOps P ops (λe y n=>(e= .normal->wpOps P ops Q l2 y n)∧(e≠ .normal->Q e y n)) l a w->wpOps P ops Q (l++l2) a w
 |[],a,w,h=>h.1 rfl
 |i::l,a,w,h=>by
  have ih:=pX (ops:=ops) (Q:=Q) (l2:=l2) l;simp only[wpOps,Q5]at h ⊢;cases ho:ops[i]? with
  |none=>rw[ho]at h;exact ih a w h
  |some o=>
   rw[ho]at h;simp only at h ⊢;split at h
   ·rename_i d;rw[if_pos d];rcases h with h|⟨u,q⟩
    ·left;unfold Oper.wp at h ⊢;revert h;generalize (execOp a.eval o).run P w=r;intro h;unfold Oper.upon at h ⊢;split at h
     ·exact ih _ _ h
     ·exact ih _ _ h
     ·exact ih _ _ h
     ·refine h.mono (λe n x=>?_);cases e with
      |returned v=>exact ih _ _ x
      |panicked c=>exact x.2 (λe=>nomatch e)
      |outgrown=>obtain⟨b,w0,m⟩:=x;exact⟨b,w0,m.2 (λe=>nomatch e)⟩
     ·exact h.mono (λv n x=>ih _ _ x)
     ·simp_all
     ·exact h.elim
    ·right;obtain⟨b,w0,m⟩:=q;exact⟨u,b,w0,m.2 (λe=>nomatch e)⟩
   ·simp_all
theorem wS (hf : Fn P f N dc rs) {F : List D → Option D} (hN : ∀ ds r, F ds = some r → ds.length ≤ N)
  (hF : ∀ ds r, F ds = some r → ∀ (fn : Func) (ca : Code) (a : Act) (w : World) (g : Gh), P.funcs[f]? = some fn → fn.body = some ca → AM P N ca = some dc → (∀ i, g.dl i = none) → (∀ i, g.tb i = none) → g.G0 = g.G →
   Holds P w.heap.size w N [] ⟨BR ds, fun _ _ => none, 0⟩ a w g →
   ca.wp P (fun e a' w' => (e = .normal ∨ e = .ret) ∧ ∃ la g' d, Holds P w.heap.size w N [] la a' w' g' ∧ g'.G0 = g.G0 ∧ Cw rs la.s la.m = some d ∧ d.unR = r ∧ r.calmR = true) a w) : (Af F).ok P f := by
 obtain ⟨fn, ca, q, h2, h3, h4, h5, h6⟩ := hf.is
 refine ⟨⟨fn, q, by rw [h2]; rfl, h3⟩, fun ds m m' fr _ => rfl, ?_⟩
 intro B w0 w m g fr ds vs r u hi fa hl da y
 simp only [Af] at y
 split at y
 ·rename_i n
  rw [Qr] at y
  obtain ⟨r', hr, y⟩ := y
  simp only [Qy] at y
  obtain ⟨rfl, rfl⟩ := y
  let g0 : Gh := { G := g.G, G0 := g.G, dl := fun _ => none, tb := fun _ => none }
  have va : Iv P w.heap.size w (fun _ _ => none) w g0 :=
   ⟨Below.refl _ _, QF _, hi.gz, fun _ _ => rfl, fun i b h => by simp [g0] at h, fun i i' b h => by simp [g0] at h, fun i o d h => Xe, fun i e h => Xe, fun i i' e e' b x x' h => Xe, fun i s p h => Xe, fun i i' s p s' p' b x x' h => Xe⟩
  have ea : ∀ (j : Nat) d v, (ds.map D.un)[j]? = some d → vs[j]? = some v → Im w g0 d v := by
   intro j d v hd hv
   have hc := QA.1 n d (Qx hd)
   rw [Q3, Qr] at hd
   obtain ⟨d', ta, rfl⟩ := hd
   exact (da j d' v ta hv).un.calm_to hc (fun _ _ => rfl) (fun _ => QF _)
  have l := hN _ _ hr
  rw [Qw] at l
  have ma : Holds P w.heap.size w N [] ⟨BR (ds.map D.un), fun _ _ => none, 0⟩ { tmps := vs.toArray ++ ZQ (N - vs.toArray.size) undef, defers := [] } w g0 := by
   refine ⟨va, fun t => ?_, by simp; omega, rfl, fun k i _ hs => ⟨fun _ => rfl, rfl, rfl⟩⟩
   simp only [BR]
   by_cases ht : t < (ds.map D.un).length
   ·have ka : t < ds.length := by simpa using ht
    have e1 : (ds.map D.un).getD t .junk = (ds.map D.un)[t] := by simp [Zq, ka]
    have e2 : (vs.toArray ++ ZQ (N - vs.toArray.size) undef).getD t undef = vs[t]' O := by
     rw [QL, Array.getElem?_append_left (by simp; omega)]
     simp [hl, ka]
    rw [e1, e2]
    exact ea t _ _ (Qp ht) (Qp _)
   ·have e1 : (ds.map D.un).getD t .junk = .junk := by simp [Zq, List.getElem?_eq_none (Nat.le_of_not_lt ht)]
    rw [e1]
    exact .junk _
  have na : Calls P f vs.toArray w fun e w' => ∃ v d m' g', e = .returned v ∧ Iv P w.heap.size w m' w' g' ∧ g'.G0 = g0.G0 ∧ Im w' g' d v ∧ d.unR = r' ∧ r'.calmR = true := by
   refine calls_of_wp q h2 ?_
   rw [h4]
   refine wp_mono (hF _ _ hr fn ca _ w g0 q h2 h5 (fun _ => rfl) (fun _ => rfl) rfl ma) ?_
   rintro e' a' w' ⟨ga, la, g', d, hh, db, hd, hR⟩
   obtain ⟨v, ja, oa⟩ := Pn hh.inv hh.slots h6 hd
   have hb : a'.defers = [] ∧ ∃ v, (results fn a'.tmps).run P w' = .ok v w' ∧ ∃ v' d m' g', Ending.returned v = .returned v' ∧ Iv P w.heap.size w m' w' g' ∧ g'.G0 = g0.G0 ∧ Im w' g' d v' ∧ d.unR = r' ∧ r'.calmR = true :=
    ⟨hh.defers, v, ja, v, d, la.m, g', rfl, hh.inv, db, oa, hR⟩
   rcases ga with rfl | rfl
   ·exact hb
   ·exact hb
  refine na.mono ?_
  rintro e w' ⟨v, d, m', g', rfl, ia, db, ab, rfl, qa⟩
  have c : ∀ b, (g.glue w g'.G).G b = g'.G b := by
   intro b
   simp only [Gh.glue]
   split
   ·rename_i z
    rw [ia.old b z, db]
   ·rfl
  refine ⟨v, g.glue w g'.G, rfl, hi.glue ia.below ia.gz, IF.glue hi.gz ia.below, ?_, fun i hf _ => hf⟩
  exact ab.unR.calmR_to qa (fun _ _ => rfl) (fun b => by rw [c]; exact QF _)
 ·cases y
end
section
variable{P:Program}{B:Nat}{w0 w:World}{m:Ig}{g g0:Gh}{N:Nat}
def Gh.bare(g:Gh)(B b n:Nat):Gh:={G:=λk=>if k<B then g.G k else if k=b then n else 0,G0:=g.G0,dl:=λ_=>none,tb:=λ_=>none}
def S1{bs:List UInt8}{j:Nat}:(Ax bs)[j]?=(bs[j]?).map λx=> .int .u8 x.toNat:=by
 simp[Ax]
def aAM(hi:Iv P B w0 m w g)(ab:∀i,g0.dl i=none)(za:∀i,g0.tb i=none)(ib:g0.G0=g0.G)(lb:∀b,B<=b->g0.G b=0)(db:g.G0=g0.G0)
  {t:Id} {e n c b:Nat} {bs:List UInt8} {y:UInt8} (ma:bs≠[]) (cb:m t 0=some (.tok (e+1))) (da:Im w g (.slice false t (Ax bs)) (.slice (some ⟨b,0,none⟩) n c)) (ht:t≠[]) (ha:g.tb t=some (b,n,c,1)) (hn:n=bs.length):
  ∃cur,w.heap[b]?=some (.cells cur e (0,0))∧n<=cur.size∧∀cs:Array Value,cs=(cur.toList.take (n-1)++[Value.int .u8 y.toNat]++cur.toList.drop (n-1+1)).toArray->
   Iv P B w0 (λ_ _=>none) (w.setRow b cs) (g.bare B b n)∧IF w0 g0 (w.setRow b cs) (g.bare B b n)∧Im (w.setRow b cs) (g.bare B b n) (.slice false [] (Ax (bs.set (bs.length-1) y))) (.slice (some ⟨b,0,none⟩) n c):=by
 obtain⟨b1,n1,c1,sz,cur,t1,t2,t3,t4,t5,t6,t7,t8,t9,ya⟩:=hi.tok t e cb;rw[ha]at t1;simp only[Qo,Qy]at t1;obtain⟨rfl,rfl,rfl,rfl⟩:=t1;have ka:0<bs.length:=ZG.2 ma;rcases da.slice_inv with ⟨h,_⟩|⟨_,ad,n2,c2,r,vv,ev,r1,r2,r3,r4,r5,r6,r7,r8,r9⟩
 ·cases h
 simp only[Value.slice.injEq,Qo]at ev;obtain⟨rfl,rfl,rfl⟩:=ev;obtain⟨_,_,q3⟩:=r8 ht;rw[ha]at q3;simp only[Qo,Qy,true_and]at q3;subst q3;refine⟨cur,t5,O,λcs xa=>?_⟩;have pa:(w.setRow b cs).heap.size=w.heap.size:=Ym
 have ba:∀k,k≠b->(w.setRow b cs).heap[k]?=w.heap[k]?:=λk hk=>setRow_other w b k _ hk
 have a:Below B w0 (w.setRow b cs):=⟨hi.below.os,hi.below.tape,hi.below.output,by rw[pa];exact hi.below.size,λk hk=>(ba k O).trans (hi.below.block k hk)⟩;have ia:b<w.heap.size:=(QQ.1 t5).1;have va:∀i k,(g.bare B b n).dl i=some k->False:=λi k h=>by simp[Gh.bare]at h
 have q:∀{d:D},(none:Option D)=some d->False:=λh=>Xd
 have la:∀i k,g0.dl i=some k->(g.bare B b n).dl i=some k:=λi k h=>by rw[ab]at h;cases h
 have oa:∀i x,g0.tb i=some x->(g.bare B b n).tb i=some x:=λi x h=>by rw[za]at h;cases h
 refine⟨⟨a,(by rw[pa];exact hi.size),λk hk=>?_,λk hk=>?_,λi k h=>(va i k h).elim,λi i' k h=>(va i k h).elim,λi o d h=>(q h).elim,λi e h=>(q h).elim,λi i' e e' k x x' h=>(q h).elim,?_⟩,⟨λp hp=>?_,λk=>?_,la,db,oa⟩,?_⟩
 ·grind [Gh.bare]
 ·simp only[Gh.bare,if_pos hk];exact hi.old k hk
 ·exact⟨λi s p h=>(q h).elim,λi i' s p s' p' b x x' h=>(q h).elim⟩
 ·have v:p.block<B:=by
   rcases ZV p.block B with h|h
   ·exact h
   ·rw[lb _ h]at hp;omega
  exact a.cell v
 ·rcases ZV k B with h|h
  ·simp only[Gh.bare,if_pos h];rw[hi.old k h,db,ib];exact QF _
  ·simp_all
 ·have ga:∀j,(w.setRow b cs).cell? ((Addr.mk b 0 none).add j)=cs[j]?:=λj=>by
   rw[Fg,QU];exact cell_setRow_same w b j cur cs e (0,0) t5
  have f:∀j,w.cell? ((Addr.mk b 0 none).add j)=cur[j]?:=λj=>by
   rw[Fg,QU];simp[World.cell?,t5]
  have l:∀j,j<bs.length->cs[j]?=if j=bs.length-1 then some (Value.int .u8 y.toNat)else cur[j]?:=λj hj=>by
   subst xa;rw[hn];have hl:(cur.toList.take (bs.length-1)).length=bs.length-1:=YD
   simp only[List.getElem?_toArray,ZL];split
   ·simp_all
   ·grind
  have sa:∀j,j<bs.length->cs[j]?=some (Value.int .u8 ((bs.set (bs.length-1) y).getD j 0).toNat):=λj hj=>by
   rw[l j hj];split
   ·simp_all
   ·rename_i e;have h4:=r4 j O;rw[f]at h4;have h6:=r6 j (.int .u8 bs[j].toNat) (by rw[GB,S1,Qp hj];rfl);rw[h4,h6.int_inv];simp[Zq,Ne.symm e,hj]
  refine .slice [] _ ⟨b,0,none⟩ n c 1 (λj=>Value.int .u8 ((bs.set (bs.length-1) y).getD j 0).toNat) (by simp[Ax,hn]) r2 (λd u=>?_) (λj hj=>?_) (λj hj=>rfl) (λj d u=>?_) (λ_=>?_) (λh=>absurd rfl h) (λd u=>?_)
  ·obtain⟨z,_,rfl⟩:=QV.1 (show d∈ZK _ _ from u);rfl
  ·simp_all
  ·rw[GB,S1]at u;rw[Qr]at u;obtain⟨z,hz,rfl⟩:=u;have:(bs.set (bs.length-1) y).getD j 0=z:=by simp[Zq,hz]
   rw[this];exact .int _ _
  ·have hB:¬b<B:=by omega
   simp only[Gh.bare,if_neg hB,if_true];omega
  ·obtain⟨z,_,rfl⟩:=QV.1 (show d∈ZK _ _ from u);rfl
end
def dC{P:Program}{ops:Array Oper}{Q k:Exit->Act->World->Prop}(s:∀e a w,Q e a w->k e a w):∀(l:List Nat)(a:Act)(w:World),wpOps P ops Q l a w->wpOps P ops k l a w
 |[],a,w,h=>s _ _ _ h
 |i::l,a,w,h=>by
  have ih:=dC (P:=P) (ops:=ops) s l;simp only[wpOps]at h ⊢;cases ho:ops[i]? with
  |none=>rw[ho]at h;exact ih a w h
  |some o=>
   rw[ho]at h;simp only at h ⊢;split at h
   ·rename_i d;rw[if_pos d];rcases h with h|⟨u,q⟩
    ·left;unfold Oper.wp at h ⊢;revert h;generalize (execOp a.eval o).run P w=r;intro h;unfold Oper.upon at h ⊢;split at h
     ·exact ih _ _ h
     ·exact ih _ _ h
     ·exact ih _ _ h
     ·refine h.mono (λe n x=>?_);cases e with
      |returned v=>exact ih _ _ x
      |panicked c=>exact s _ _ _ x
      |outgrown=>obtain⟨b,w0,m⟩:=x;exact⟨b,w0,s _ _ _ m⟩
     ·exact h.mono (λv n x=>ih _ _ x)
     ·exact s _ _ _ h
     ·exact h.elim
    ·right;obtain⟨b,w0,m⟩:=q;exact⟨u,b,w0,s _ _ _ m⟩
   ·simp_all
def UO{o:Option DOp}{d:DOp}(l:d≠ .stop)(h:o.getD .stop=d):o=some d:=by
 cases o with
 |none=>exact absurd h.symm l
 |some x=>exact congrArg some h
theorem oZ{P:Program}{ne:Bool}{t:TypeId}{x y:Operand}{a b:Ip}{n:Nat}{u v:Ip}:Vb P ne t x y a b≠some (.iaddr n u v):=by
 unfold Vb
 (repeat' split)<;>simp
theorem oY{P:Program}{ne:Bool}{t:TypeId}{x y:Operand}{a b:Ip}{n:Nat}{u v:Ip}:Vb P ne t x y a b≠some (.store n u v):=by
 unfold Vb
 (repeat' split)<;>simp
def uM{P:Program}{c:Call}{n:Nat}{u v:Ip}:HG P c≠some (.iaddr n u v):=by
 unfold HG
 (repeat' split)<;>simp
def uL{P:Program}{c:Call}{n:Nat}{u v:Ip}:HG P c≠some (.store n u v):=by
 unfold HG
 (repeat' split)<;>simp
def aAG{P:Program}{op:Op}{x i:Ip}(h:(tr P op).getD .stop= .iaddr 1 x i):∃t X I e,op= .indexAddr t X I∧P.underlying t=some (.slice e)∧Dm P e=some 1∧AK X=some x∧AK I=some i:=by
 replace h:=UO U h;unfold tr at h;split at h
 all_goals try (simp only[Qr,reduceCtorEq,and_false,exists_false]at h;done)
 all_goals try ((repeat' split at h)<;>simp only[Qr,reduceCtorEq,and_false,exists_false,Qo]at h<;>done)
 ·grind [oZ]
 ·grind [oZ]
 ·rename_i t X I;split at h
  ·rename_i e z a u q o;rw[Qr]at h;obtain⟨n,f,b⟩:=h;simp only[DOp.iaddr.injEq]at b;obtain⟨rfl,rfl,rfl⟩:=b;exact⟨t,X,I,e,rfl,u,f,q,o⟩
  ·simp_all
  ·cases h
 ·exact absurd h uM
def aAF{P:Program}{op:Op}{x v:Ip}(h:(tr P op).getD .stop= .store 1 x v):∃t X V,op= .store t X V∧Dm P t=some 1∧AK X=some x∧AK V=some v:=by
 replace h:=UO U h;unfold tr at h;split at h
 all_goals try (simp only[Qr,reduceCtorEq,and_false,exists_false]at h;done)
 all_goals try ((repeat' split at h)<;>simp only[Qr,reduceCtorEq,and_false,exists_false,Qo]at h<;>done)
 ·grind
 ·grind [oY]
 ·grind [oY]
 ·exact absurd h uL
def aCm:List DOper:=[⟨some 37,.mv (.t 3),[],none⟩,⟨some 38,.mv (.t 3),[],none⟩,⟨some 39,.len false (.t 38),[],none⟩,⟨some 40,.bin .sub (.t 39) (.c (.int .i64 1)),[],none⟩,⟨some 41,.iaddr 1 (.t 37) (.t 40),[],none⟩,⟨none,.store 1 (.t 41) (.c (.int .u8 1)),[],none⟩]
def Hh{d:DOper}{dst:Option Nat}{op:DOp}{w:Option (Nat×Bool)}(h:d.strip=⟨dst,op,[],w⟩):d.dst=dst∧d.op=op∧d.guard=w:=by
 grind [DOper.strip]
section
variable{P:Program}{B:Nat}{w0:World}{N:Nat}{S:Ic}
def aHq(hS:Ic.ok P S){id:Nat}{ops:Array Oper}{da:List DOper}(fa:DA P N ops.toList=some da)(hd:da.map DOper.strip=aCm){st:St}{a:Act}{w:World}{g g0:Gh}(hx:Holds P B w0 N [] st a w g)
  (ab:∀i,g0.dl i=none) (za:∀i,g0.tb i=none) (ib:g0.G0=g0.G) (lb:∀b,B<=b->g0.G b=0) (db:g.G0=g0.G0) (pb:Im w0 g0 (st.s 0) (a.tmps.getD 0 undef))
  {t:Id} {bs:List UInt8} (ma:bs≠[]) (ka:bs.length<=1000000000) (ht:t≠[]) (h3:st.s 3= .slice false t (Ax bs)) {n4:Int} (h4:st.s 4= .int .i64 n4) {e:Nat} (cb:st.m t 0=some (.tok (e+1))):
  (Code.region id ops false).wp P (λe a' w'=>e= .normal∧a'.tmps[0]?=a.tmps[0]?∧∃la g',Holds P B w0 N [] la a' w' g'∧g'.G0=g0.G0∧la.s 0=st.s 0∧la.s 4=st.s 4∧la.s 3= .slice false [] (Ax (bs.set (bs.length-1) 1))) a w:=by
 have h6:da.length=6:=by have:=congrArg ZX hd;simpa[aCm]using this
 match da,h6,hd,fa with
 |[d0,d1,d2,d3,d4,d5],_,hd,fa=>
  simp only[aCm,Zk,ZA,QG,and_true]at hd;obtain⟨q0,q1,q2,q3,q4,q5⟩:=hd;obtain⟨x0,y0,z0⟩:=Hh q0;obtain⟨x1,y1,z1⟩:=Hh q1;obtain⟨x2,y2,z2⟩:=Hh q2;obtain⟨x3,y3,z3⟩:=Hh q3;obtain⟨x4,y4,z4⟩:=Hh q4;obtain⟨x5,y5,z5⟩:=Hh q5;clear q0 q1 q2 q3 q4 q5;obtain⟨hl,ca⟩:=CS fa;have pa:ops.size=6:=by simpa using hl.symm
  have oa:∀k,k<6->∃o,ops[k]?=some o:=λk hk=>⟨ops[k],Array.getElem?_eq_getElem O⟩
  have j:∀(k:Nat) o,ops[k]?=some o->o.dst≠some 0:=by
   intro k o ho;obtain⟨d,e1,e2⟩:=ca k o (by simpa using ho);have e3:=(CL e2).2.1;rw[←e3]
   match k,e1 with
   |0,e1=>simp only[Qt,Qo]at e1;subst e1;rw[x0];decide
   |1,e1=>simp only[QC,Qt,Qo]at e1;subst e1;rw[x1];decide
   |2,e1=>simp only[QC,Qt,Qo]at e1;subst e1;rw[x2];decide
   |3,e1=>simp only[QC,Qt,Qo]at e1;subst e1;rw[x3];decide
   |4,e1=>simp only[QC,Qt,Qo]at e1;subst e1;rw[x4];decide
   |5,e1=>simp only[QC,Qt,Qo]at e1;subst e1;rw[x5];decide
   |k+6,e1=>simp at e1
  have ta:AJ .sub (.int .i64 (bs.length:Int)) (.int .i64 1)=some (.int .i64 ((bs.length:Int)-1)):=by
   rw[aK7,IntWalk.i64_in _ ⟨O,O⟩]
  have he:Dh S [] st.c [d0,d1,d2,d3,d4,d5] [0,1,2,3] st.s st.m=some (Ct (Ct (Ct (Ct st.s (some 37) (.slice false t (Ax bs))) (some 38) (.slice false t (Ax bs))) (some 39) (.int .i64 (bs.length:Int))) (some 40) (.int .i64 ((bs.length:Int)-1)),st.m):=by
   have wa:(Ax bs).length=bs.length:=by simp[Ax]
   simp[Dh,B9,BG,x0,x1,x2,x3,y0,y1,y2,y3,z0,z1,z2,z3,AG,Ip.ev,Ct,h3,Ir.app,wa,ta,dR]
  refine wp_region ?_;rw[pa];show wpOps P ops _ ([0,1,2,3]++[4,5]) a w;refine pX _ a w ?_;have aa:wpOps P ops (λe' a' w'=>e'= .normal∧∃g',InX P B w0 N [] st.c ([0,1,2,3].foldl ins (λ_=>false)) (Ct (Ct (Ct (Ct st.s (some 37) (.slice false t (Ax bs))) (some 38) (.slice false t (Ax bs))) (some 39) (.int .i64 (bs.length:Int))) (some 40) (.int .i64 ((bs.length:Int)-1))) st.m a' w' g'∧IF w g w' g') [0,1,2,3] a w:=
   EW hS fa [0,1,2,3] (λ_=>false) st.s st.m a w g _ _ (by simp[aEW,ins]) he (hx.start _) (λa' w' g' h1 h2 h3=>⟨rfl,g',h1,h2⟩)
  refine dC ?_ _ a w (NV (x:=a.tmps[0]?) j _ a w rfl aa);rintro e1 a1 w1 ⟨⟨rfl,g1,eb,ja⟩,ea⟩;refine⟨λ_=>?_,λh=>absurd rfl h⟩;replace ea:=ea rfl;obtain⟨o4,xb⟩:=oa 4 O;obtain⟨o5,vb⟩:=oa 5 O;obtain⟨e4,f4,g4⟩:=ca 4 o4 (by simpa using xb);obtain⟨e5,f5,g5⟩:=ca 5 o5 (by simpa using vb);simp only[QC,Qt,Qo]at f4 f5;subst f4 f5;obtain⟨p4,r4,_,u4,_⟩:=CL g4;obtain⟨p5,r5,_,u5,_⟩:=CL g5;rw[y4]at p4;rw[y5]at p5;rw[x4]at r4;rw[x5]at r5;rw[z4]at u4;rw[z5]at u5;obtain⟨T4,X4,I4,E4,mb,fc,cc,bc,zb⟩:=aAG p4;obtain⟨T5,X5,V5,sb,kb,ha,yb⟩:=aAF p5;have ba:=eb.slots.arg bc;have rb:=eb.slots.arg zb;replace ba:Im w1 g1 (.slice false t (Ax bs)) (a1.eval X4):=by simpa[Ip.ev,Ct]using ba
  replace rb:Im w1 g1 (.int .i64 ((bs.length:Int)-1)) (a1.eval I4):=by simpa[Ip.ev,Ct]using rb
  have v3:Im w1 g1 (.slice false t (Ax bs)) (a1.tmps.getD 3 undef):=by have:=eb.slots 3;simpa[Ct,h3]using this
  have v4:Im w1 g1 (.int .i64 n4) (a1.tmps.getD 4 undef):=by have:=eb.slots 4;simpa[Ct,h4]using this
  have na:0<bs.length:=ZG.2 ma;have l:∀{sz:Nat},(∀d∈Ax bs,d.cells.length=sz)->sz=1:=λh=>by
   cases bs with
   |nil=>exact absurd rfl ma
   |cons z r=>exact(h _ (Q0 ..)).symm
  rcases ba.slice_inv with ⟨h,_⟩|⟨_,ad,n,c,sz,vv,ev,i1,i2,i3,i4,i5,i6,i7,i8,i9⟩
  ·cases h
  obtain⟨j1,j2,j3⟩:=i8 ht;obtain rfl:=l i3;obtain⟨b,off,jb⟩:=ad;simp only at j1 j2 j3;subst j1 j2;rcases v3.slice_inv with ⟨h,_⟩|⟨_,hb,n',c',qa,gc,dc,k1,k2,k3,k4,k5,k6,k7,k8,k9⟩
  ·cases h
  obtain⟨l1,l2,l3⟩:=k8 ht;obtain⟨b',ac,wb⟩:=hb;simp only at l1 l2 l3;subst l1 l2;rw[j3]at l3;simp only[Qo,Qy]at l3;obtain⟨rfl,rfl,rfl,_⟩:=l3;have ya:n=bs.length:=by rw[i1];simp[Ax]
  rw[ev]at ba;have ia:g1.G0=g0.G0:=by rw[ja.G0,db]
  obtain⟨cur,hh,xa,sa⟩:=aAM (y:=1) eb.inv ab za ib lb ia ma cb ba ht j3 ya;have gb:Region.wanted o4 (yielded ops a1.tmps)=true:=Fs fa eb.slots (by rw[z4,←u4]) (by unfold BG;rw[z4]);have ob:(execOp a1.eval o4).run P w1= .ok (.value (.pointer (some ⟨b,bs.length-1,none⟩))) w1:=by
   have ra:(0:Int)<=(bs.length:Int)-1∧(bs.length:Int)-1<(n:Int):=O
   have q:(Addr.mk b 0 none).add (((bs.length:Int)-1).toNat*1)=⟨b,bs.length-1,none⟩:=by
    rw[Fg];congr 1;omega
   rw[←q];simp[execOp,mb,Instr.indexAt,asIntOf,rb.int_inv,ev,run_underlying fc,ra,Iu cc];intro h;omega
  simp only[wpOps];rw[xb];simp only;rw[if_pos gb];left;unfold Oper.wp;rw[ob,Oper.upon_value,←r4];have u:41<a1.tmps.size:=by
   have:=(CL g4).2.2.2.2 41 r4.symm;rw[eb.size];exact this
  have ua:Ef w1 g1 _ (a1.put (some 41) (.pointer (some ⟨b,bs.length-1,none⟩))):=eb.slots.put (dst:=some 41) (d:= .junk) (.junk _) (λt ht=>by cases ht;exact u);generalize va:a1.put (some 41) (.pointer (some ⟨b,bs.length-1,none⟩))=a2 at ua ⊢;have ga:∀k,k≠41->a2.tmps[k]?=a1.tmps[k]?:=λk hk=>by
   rw[←va];exact FP (λe=>hk (QP e).symm)
  have ub:a2.eval X5= .pointer (some ⟨b,bs.length-1,none⟩):=by
   cases X5 with
   |tmp k=>
    simp only[AK,Qo,Ip.t.injEq]at ha;subst ha;rw[←va];simp only[Act.eval,Act.put];rw[QL,Zo,if_pos rfl,if_pos u];rfl
   |const v=>simp[AK]at ha
   |func f=>simp[AK]at ha
   |global k=>simp[AK]at ha
  have qb:a2.eval V5= .int .u8 1:=(ua.arg yb).int_inv;have ec:Region.wanted o5 (yielded ops a2.tmps)=true:=Fs fa ua (by rw[z5,←u5]) (by unfold BG;rw[z5]);have fb:=sa _ rfl;have nb:(execOp a2.eval o5).run P w1= .ok .skip (w1.setRow b (cur.toList.take (n-1)++[Value.int .u8 ((1:UInt8).toNat:Int)]++cur.toList.drop (n-1+1)).toArray):=by
   have:=MQ (P:=P) (w:=w1) (o:=n-1) kb hh (v:= .int .u8 1) rfl (by simp[Value.cells,Value.oneCell']) O;rw[ya]at this ⊢;simp only[execOp,sb,Instr.storeAt,ub,qb,Instr.sureAddr,Sem.run_bind,Result.andThen_ok,Sem.run_pure,this];rfl
  rw[vb];simp only;rw[if_pos ec];left;rw[nb,Oper.upon_skip,←r5];generalize hW:w1.setRow b (cur.toList.take (n-1)++[Value.int .u8 ((1:UInt8).toNat:Int)]++cur.toList.drop (n-1+1)).toArray=w2 at fb ⊢;obtain⟨F1,F2,F3⟩:=fb;show _∧_;have p:a2.tmps[0]?=a.tmps[0]?:=by rw[ga 0 Z,ea]
  have bb:∀k,k≠41->a2.tmps.getD k undef=a1.tmps.getD k undef:=λk hk=>by rw[QL,QL,ga k hk]
  refine⟨YP,p,⟨λk=>if k=0 then st.s 0 else if k=4 then .int .i64 n4 else if k=3 then .slice false [] (Ax (bs.set (bs.length-1) 1))else .junk,λ_ _=>none,0⟩,g1.bare B b n,⟨F1,λk=>?_,?_,?_,λk i _ _=>⟨λ_=>rfl,rfl,rfl⟩⟩,ia,rfl,h4.symm,rfl⟩
  ·show Im w2 _ (if k=0 then _ else if k=4 then _ else if k=3 then _ else _) (a2.tmps.getD k undef);split
   ·rename_i e;subst e;rw[QL,p,←QL];exact pb.ext F2
   ·split
    ·rename_i e;subst e;rw[bb 4 Z,v4.int_inv];exact .int _ _
    ·split
     ·rename_i e;subst e;rw[bb 3 Z,dc];exact F3
     ·exact .junk _
  ·have:a2.tmps.size=a1.tmps.size:=by rw[←va];simp[Act.put]
   rw[show(a2.put none undef).tmps.size=a2.tmps.size from rfl,this];exact eb.size
  ·have:a2.defers=a1.defers:=by rw[←va];rfl
   rw[show(a2.put none undef).defers=a2.defers from rfl,this];exact eb.defers
end
def Cn(m:Ig)(e:Nat)(nl:Bool)(t:Id)(emp:Bool):Bool:=
 if nl=true then emp else match m t 0 with
  |some (.tok k)=>k==e+1&&!t.isEmpty
  |_=>false
def SI{m:Ig}{e:Nat}{nl:Bool}{t:Id}{emp:Bool}{xs:List D}(h:Cn m e nl t emp=true):L8 m e (.slice nl t xs):=by
 unfold Cn at h;split at h
 ·rename_i r;exact .inl r
 ·split at h
  ·rename_i k z;simp only[QT,beq_iff_eq]at h;rw[h.1]at z;exact .inr ⟨z,by intro e;rw[e]at h;simp at h⟩
  ·cases h
theorem E0{m m':Ig}{e:Nat}{nl:Bool}{t:Id}{emp:Bool}(h:m t 0=m' t 0):Cn m e nl t emp=Cn m' e nl t emp:=by
 unfold Cn;rw[h]
def eF{m m':Ig}{e:Nat}{nl:Bool}{t:Id}{emp:Bool}{xs:List D}(h:Cn m e nl t emp=true)(z:nl=false->m t 0=some (.tok (e+1))->m' t 0=m t 0):L8 m' e (.slice nl t xs):=by
 rcases SI (xs:=xs) h with h0|⟨u,q⟩
 ·exact .inl h0
 ·cases nl with
  |true=>exact .inl rfl
  |false=>exact .inr ⟨by rw[z rfl u];exact u,q⟩
def FG{m:Ig}{e:Nat}{nl:Bool}{t:Id}{emp:Bool}(h:Cn m e nl t emp=true):nl=false->m t 0=some (.tok (e+1)):=by
 rintro rfl;rcases SI (xs:=[]) h with h0|⟨u,q⟩
 ·cases h0
 ·exact u
theorem Du{m:Ig}{e:Nat}{f t i:Id}{nl:Bool}{xs:List D}{o:Nat}:Ir.app m (Bm e f (.slice nl t xs)) i o=if i=f∧o=0 then some (.tok (e+1))else if nl=false∧i=t∧o=0 then some (.tok 0)else m i o:=by
 cases nl<;>simp[Bm,Ir.app,BK]
theorem EU{n:Nat}(h:n<256):(UInt8.ofNat n).toNat=n:=by simp[UInt8.toNat_ofNat'];omega
def NO(n:Int):IntKind.u8.wrap n=(((n % 256).toNat:Nat):Int):=by
 have u:IntKind.u8.wrap n=n % 256:=YR
 rw[u];omega
structure Gd (e:Nat) (fr:Id) (m0:Ig) (nl0:Bool) (t0:Id) (m:Ig) (c:Nat) (t:Id):Prop where
 name:∃l j,t=l++j::fr∧j<c
 tok:m t 0=some (.tok (e+1))
 out:∀i o,¬fr<:+i->m i o=(if nl0=true then m0 else m0.put t0 0 [.tok 0]) i o
def Gs(e:Nat)(fr:Id)(m0:Ig)(nl0:Bool)(t0:Id)(m:Ig)(c:Nat)(nl:Bool)(t:Id):Prop:=
 (nl=nl0∧t=t0∧∀i o,¬fr<:+i->m i o=m0 i o)∨(nl=false∧Gd e fr m0 nl0 t0 m c t)
def jC(l:List Nat)(j:Nat)(fr:Id):fr<:+l++j::fr:=⟨l++[j],U⟩
theorem aV8{l u:List Nat}{j k:Nat}{fr:Id}(h:j≠k):l++j::fr≠u++k::fr:=by
 intro e;have r:=congrArg List.reverse e;simp only[List.reverse_append,List.reverse_cons,ZL,List.append_cancel_left_eq]at r;simp only[Q5,ZD,QG]at r;exact h r.1
section
variable{e:Nat}{fr:Id}{m0 m:Ig}{nl0 nl:Bool}{t0 t:Id}{c c' k o:Nat}{l:List Nat}{xs ds:List D}{emp:Bool}
def Gs.start:Gs e fr m0 nl0 t0 m0 c nl0 t0:= .inl ⟨rfl,rfl,λ_ _ _=>rfl⟩
def Gd.gs(h:Gd e fr m0 nl0 t0 m c t):Gs e fr m0 nl0 t0 m c false t:= .inr ⟨rfl,h⟩
def Gd.more(h:Gd e fr m0 nl0 t0 m c t)(k:c<=c'):Gd e fr m0 nl0 t0 m c' t:=⟨by obtain⟨l,j,b,z⟩:=h.name;exact⟨l,j,b,O⟩,h.tok,h.out⟩
def Gs.more(h:Gs e fr m0 nl0 t0 m c nl t)(k:c<=c'):Gs e fr m0 nl0 t0 m c' nl t:=h.imp id (λ⟨a,b⟩=>⟨a,b.more k⟩)
def pZ(n:∀i o,fr<:+i->m0 i o=none)(h:m0 t0 0=some (.tok (e+1))):¬fr<:+t0:=λj=>by rw[n _ _ j]at h;cases h
def NU(i:Id)(o':Nat)(hi:¬fr<:+i):m.put (l++k::fr) o ds i o'=m i o':=aA (λe=>hi (e▸jC l k fr))
def Gd.put(h:Gd e fr m0 nl0 t0 m c t)(g:c<=k:=by omega):Gd e fr m0 nl0 t0 (m.put (l++k::fr) o ds) c t:=by
 refine⟨h.name,?_,λi o' hi=>(NU i o' hi).trans (h.out i o' hi)⟩;obtain⟨u,j,b,z⟩:=h.name;rw[aA]
 ·exact h.tok
 ·grind [aV8]
def Gs.put(h:Gs e fr m0 nl0 t0 m c nl t)(j:c<=k:=by omega):Gs e fr m0 nl0 t0 (m.put (l++k::fr) o ds) c nl t:=by
 rcases h with ⟨a,b,d⟩|⟨a,h⟩
 ·exact .inl ⟨a,b,λi o' hi=>(NU i o' hi).trans (d i o' hi)⟩
 ·exact .inr ⟨a,h.put j⟩
def Gs.grow(h:Gs e fr m0 nl0 t0 m c nl t)(n:∀i o,fr<:+i->m0 i o=none)(r:Cn m0 e nl0 t0 emp=true):L8 m e (.slice nl t xs):=by
 rcases h with ⟨rfl,rfl,d⟩|⟨a,h⟩
 ·exact eF r (λe1 e2=>d _ _ (pZ n e2))
 ·obtain⟨u,j,b,z⟩:=h.name;exact .inr ⟨h.tok,by rw[b];simp⟩
def Gs.nil(h:Gs e fr m0 nl0 t0 m c nl t)(r:Cn m0 e nl0 t0 emp=true):nl=true->emp=true:=by
 rcases h with ⟨rfl,rfl,d⟩|⟨a,_⟩
 ·grind [Cn]
 ·rw[a];intro h;cases h
def Gs.app(h:Gs e fr m0 nl0 t0 m c nl t)(g:c<=k)(n:k<c'):Gd e fr m0 nl0 t0 (Ir.app m (Bm e (l++k::fr) (.slice nl t xs))) c' (l++k::fr):=by
 refine⟨⟨l,k,rfl,n⟩,by rw[Du,if_pos ⟨rfl,rfl⟩],λi o hi=>?_⟩;have ma:i≠l++k::fr:=λe=>hi (e▸jC l k fr)
 rw[Du,if_neg (λx=>ma x.1)];rcases h with ⟨rfl,rfl,d⟩|⟨rfl,h⟩
 ·grind [BK]
 ·obtain⟨u,j,b,z⟩:=h.name;have f:i≠t:=λe=>hi (by rw[e,b];exact jC u j fr)
  rw[if_neg (λx=>f x.2.1)];exact h.out i o hi
def Gd.fin(h:Gd e fr m0 nl0 t0 m c t)(n:∀i o,fr<:+i->m0 i o=none)(r:Cn m0 e nl0 t0 emp=true):∀i o x,Ir.app m0 (Bm e t (.slice nl0 t0 xs)) i o=some x->m i o=some x:=by
 intro i o x p;rw[Du]at p;by_cases u:i=t∧o=0
 ·rw[if_pos u]at p;rw[u.1,u.2,h.tok];exact p
 ·rw[if_neg u]at p;by_cases q:nl0=false∧i=t0∧o=0
  ·obtain⟨rfl,rfl,rfl⟩:=q;rw[if_pos ⟨rfl,rfl,rfl⟩]at p;rw[h.out _ _ (pZ n (FG r rfl)),if_neg U,BK,if_pos ⟨rfl,rfl⟩];exact p
  ·rw[if_neg q]at p;by_cases hi:fr<:+i
   ·simp_all
   ·rw[h.out i o hi];cases nl0 with
    |true=>exact p
    |false=>simp only[QZ,if_false,BK];rw[if_neg (λx=>q ⟨rfl,x⟩)];exact p
end
def Gy{P:Program}{S:Ic}{f:FuncId}{N:Nat}{dc:DC}{rs:List RV}(s:Ic.ok P S)(a:Fn P f N dc rs){q:IS}(z:∀ds m m' fr,(∀l∈q.rd ds m,m l.1 l.2=m' l.1 l.2)->q.ex ds m fr=q.ex ds m' fr)
  (hq:∀ds m fr r u,q.ex ds m fr=some (r,u)->(∀i o,fr<:+i->m i o=none)->ds.length<=N∧dc.wp S fr (Ew rs λd m'=>d=r∧∀i o x,Ir.app m u i o=some x->m' i o=some x) ⟨BR ds,m,0⟩):q.ok P f:=by
 obtain⟨fn,c,y,t,h3,b,h5,h6⟩:=a.is;refine⟨⟨fn,y,XL,h3⟩,z,?_⟩;intro B w0 w m g fr ds vs r u hi fa hl da p;have n:∀k i,(k::fr)<:+i->Cp m g i:=λk i h=>fa i ((QS k fr).trans h)
 obtain⟨hN,bb⟩:=hq ds m fr r u p (λi o h=>(fa i h).1 o);have na:=Hw (ns:=fr) s a hN hi n hl da bb;refine na.mono ?_;rintro e w' ⟨v,d,m',g',rfl,ia,ja,ka,ab,rfl,ta⟩;refine⟨v,g',rfl,ia.less ta,ja,ab,λi a hn=>?_⟩;obtain⟨k1,j,k3⟩:=ka i a hn;refine⟨λo=>?_,j,k3⟩;cases hx:Ir.app m u i o with
 |none=>rfl
 |some x=>exact absurd (k1 o) (by rw[ta i o x hx];simp)
def gQ(e:Nat)(F:List D->Option (List D×List Nat)):IS where
 rd:=λds _=>match ds with
  | .slice _ t _::_=>[(t,0)]
  |_=>[]
 ex:=λds m fr=>match ds with
  | .slice nl t xs::rest=>if Cn m e nl t xs.isEmpty=true∧xs.length<=100000000 then(F rest).map λy=>(.slice false (y.2++fr) (xs++y.1),Bm e (y.2++fr) (.slice nl t xs))else none
  |_=>none
def aQ9{e:Nat}{F:List D->Option (List D×List Nat)}(ds:List D)(m m':Ig)(fr:Id)(h:∀l∈(gQ e F).rd ds m,m l.1 l.2=m' l.1 l.2):(gQ e F).ex ds m fr=(gQ e F).ex ds m' fr:=by
 simp only[gQ]at h ⊢;split
 ·rename_i nl t xs v;rw[E0 (h (t,0) U)]
 ·rfl
def aRa{e:Nat}{F:List D->Option (List D×List Nat)}{ds:List D}{m:Ig}{fr:Id}{d:D}{u:Ir}(h:(gQ e F).ex ds m fr=some (d,u)):
  ∃nl t xs v ys l,ds= .slice nl t xs::v∧Cn m e nl t xs.isEmpty=true∧xs.length<=100000000∧F v=some (ys,l)∧d= .slice false (l++fr) (xs++ys)∧u=Bm e (l++fr) (.slice nl t xs):=by
 simp only[gQ]at h;split at h
 ·rename_i nl t xs v;split at h
  ·rename_i j;rw[Qr]at h;obtain⟨⟨ys,l⟩,g,h⟩:=h;simp only[Qy]at h;exact⟨nl,t,xs,v,ys,l,rfl,j.1,j.2,g,h.1.symm,h.2.symm⟩
  ·cases h
 ·cases h
def aLX{e:Nat}{F:List D->Option (List D×List Nat)}{m:Ig}{fr:Id}{nl:Bool}{t:Id}{xs v ys:List D}{l:List Nat}{K:D×Ir->Prop}{g}(h0:L8 m e (.slice nl t xs))(f:nl=true->xs=[])(w:xs.length<=100000000)(r:F v=some (ys,l))
  (h:K (.slice false (l++fr) (xs++ys),Bm e (l++fr) (.slice nl t xs))):IE ((gQ e F).ex (.slice nl t xs::v) m fr) K g:=by
 refine aI ?_ h;have n:Cn m e nl t xs.isEmpty=true:=by
  unfold Cn;cases nl with
  |true=>rw[if_pos rfl,f rfl];rfl
  |false=>
   rcases h0 with h0|⟨u,q⟩
   ·cases h0
   ·simp_all
 simp only[gQ];rw[if_pos ⟨n,w⟩,r];rfl
def RR:Nat->Int->List UInt8
 |0,_=>[]
 |k+1,n=>UInt8.ofNat ((n.fdiv (2 ^ (8*k))) % 256).toNat::RR k n
def Mu:∀k n,(RR k n).length=k
 |0,_=>rfl
 |k+1,n=>by simp[RR,Mu k n]
def EQ:D->Bool
 | .int .u8 _=>true
 |_=>false
def grownQ:IS where
 rd:=λ_ _=>[]
 ex:=λds _ fr=>match ds with
  |[.slice _ _ xs,.int .i64 k]=>if 0<=k∧xs.all EQ=true∧(xs.length:Int)+k<=140737488355328 then some (.slice false (0::fr) xs,[(0::fr,0,[.tok 6])])else none
  |_=>none
def cQ(e:Nat)(f:D->D)(F:List D->Option (List D×List Nat)):IS where
 rd:=λ_ _=>[]
 ex:=λds _ fr=>match ds with
  | .slice _ _ xs::rest=>if xs.all EQ=true∧xs.length<=100000000 then(F rest).map λy=>(f (.slice false (y.2++fr) (xs++y.1)),[(y.2++fr,0,[.tok (e+1)])])else none
  |_=>none
def nC{e:Nat}{f:D->D}{F:List D->Option (List D×List Nat)}{ds:List D}{m:Ig}{fr:Id}{d:D}{u:Ir}(h:(cQ e f F).ex ds m fr=some (d,u)):
  ∃nl t xs v ys l,ds= .slice nl t xs::v∧xs.all EQ=true∧xs.length<=100000000∧F v=some (ys,l)∧d=f (.slice false (l++fr) (xs++ys))∧u=[(l++fr,0,[.tok (e+1)])]:=by
 simp only[cQ]at h;split at h
 ·rename_i nl t xs v;split at h
  ·rename_i j;rw[Qr]at h;obtain⟨⟨ys,l⟩,g,h⟩:=h;simp only[Qy]at h;exact⟨nl,t,xs,v,ys,l,rfl,j.1,j.2,g,h.1.symm,h.2.symm⟩
  ·cases h
 ·cases h
def eG{e:Nat}{f:D->D}{F:List D->Option (List D×List Nat)}{m:Ig}{fr:Id}{nl:Bool}{t:Id}{xs v ys:List D}{l:List Nat}{K:D×Ir->Prop}{g}(q:xs.all EQ=true)(w:xs.length<=100000000)(r:F v=some (ys,l))
  (h:K (f (.slice false (l++fr) (xs++ys)),[(l++fr,0,[.tok (e+1)])])):IE ((cQ e f F).ex (.slice nl t xs::v) m fr) K g:=by
 refine aI ?_ h;simp only[cQ];rw[if_pos ⟨q,w⟩,r];rfl
def O3(a:List UInt8):(Ax a).all EQ=true:=by
 rw[QA];intro x p;obtain⟨c,_,rfl⟩:=QV.1 p;rfl
def Gd.finc{e:Nat}{fr:Id}{m0 m:Ig}{t0 t:Id}{c:Nat}(h:Gd e fr m0 true t0 m c t)(n:∀i o,fr<:+i->m0 i o=none):∀i o x,Ir.app m0 [(t,0,[.tok (e+1)])] i o=some x->m i o=some x:=
 h.fin (emp:=true) (xs:=[]) n (by unfold Cn;rfl)
def aCP{m:Ig}{fr:Id}{nl:Bool}{t:Id}{xs:List D}{k:Int}(j:0<=k)(q:xs.all EQ=true)(w:(xs.length:Int)+k<=140737488355328):grownQ.ex [.slice nl t xs,.int .i64 k] m fr=some (.slice false (0::fr) xs,[(0::fr,0,[.tok 6])]):=by
 grind [grownQ]
def Md{n:Int}(h:0<=n)(b:n<18446744073709551616):IntKind.u64.wrap n=n:=by
 have:IntKind.u64.wrap n=n % 18446744073709551616:=YR
 rw[this];omega
def Vp(d:D):D:= .tup [d,.int .i64 0]
def yP{n:Int}(h:0<=n)(b:n<18446744073709551616)(j:Nat):IntKind.u64.wrap ((n.fdiv (2 ^ (8*j))).tdiv 256)=n.fdiv (2 ^ (8*(j+1))):=by
 have p:(0:Int)<=2 ^ (8*j):=ZW (Z_ Z);have k:(0:Int)<=2 ^ (8*(j+1)):=ZW (Z_ Z);rw[Zv _ p,Zv _ k];have e:(2:Int) ^ (8*(j+1))=2 ^ (8*j)*256:=by rw[show 8*(j+1)=8*j+8 by omega,Int.pow_add];rfl
 have q:0<=n / 2 ^ (8*j):=ZR h p;have d:n / 2 ^ (8*j)<=n:=Int.ediv_le_self _ h;rw[Zu q,e,←Int.ediv_ediv_of_nonneg p];exact Md (ZR q Z) O
def yQ{n:Int}(h:0<=n)(j:Nat):((n.fdiv (2 ^ (8*j))).tmod 256) % 256=n.fdiv (2 ^ (8*j)) % 256:=by
 grind
def Lq:Nat->Nat
 |0=>0
 |k+1=>18+9*k+Lq k
end Go.Vd
end
