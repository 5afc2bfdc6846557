/- A part of the proof; nothing in it is assumed. -/
import Derived.Test.YtglcjfimdoldbaaGreatDoorMRestoresP1
import Derived.Test.YtglcjfimdoldbaaGreatDoorProg
import Derived.Shelf.Strings.Split
import Init
import Derived.Shelf.Strings.OnBuilder

set_option linter.unusedSimpArgs false
set_option linter.unusedVariables false
set_option linter.defProp false
set_option maxHeartbeats 4000000
set_option maxRecDepth 100000
open And renaming intro→Qh
open Option.some renaming injEq→Qi,inj→QF
open List renaming getElem?_eq_getElem→Qj,getElem?_cons_succ→Ql,mem_of_getElem?→Qr,getElem?_cons_zero→Qs,getElem?_eq_some_iff→Qt,length_map→Qu,all_eq_true→Qv,map_congr_left→QC,take_succ_cons→QD,length_cons→QH,getElem?_map→QI,suffix_cons→QK,map_map→QL,getElem?_take_of_lt→QM,drop_zero→QR,take_zero→QS,getElem?_append_left→QU,length_nil→QV,mem_map→QW,mem_cons_self→QZ,head?_cons→Q_,append_assoc→Q1,mem_cons_of_mem→Q2,getElem?_append_right→Q4,cons_append→Q5,drop_eq_getElem_cons→Q7,getElem_of_mem→Q8,map_cons→Q9,length_append→Zb,replicate→Zd,getElem_mem→Zf,count_eq_zero_of_not_mem→Zg,range_eq_range'→Zh,length_take_le→Zj,drop_succ_cons→Zk,length_pos_iff→Zl,getD→Zn,mem_cons→Zq,length_eq_zero_iff→Zr,suffix_refl→Zs,map_nil→Zv,take_of_length_le→Zw,nil_append→Zx,getElem?_take→ZB,map→ZC,take_length→ZD,length→ZF,map_id→ZG,all_append→ZH,drop_drop→ZL,all_cons→ZO,getLast?→ZP,any_map→ZS,range→ZX
open Option renaming map_eq_some_iff→Qk,bind_some→Qw,bind_eq_some_iff→QB,map_some→QN,isSome_some→QT
open Nat renaming reduceEqDiff→Qm,reduceAdd→Qn,le_refl→Qz,zero_add→QE,zero_ne_one→QG,le_of_ble_eq_true→QJ,le_trans→QO,reduceLT→QX,zero_le→QY,one_ne_zero→Q0,succ_ne_zero→Q6,lt_of_lt_of_le→Za,sub_zero→Ze,add_zero→Zm,land→Zt,reduceLeDiff→Zu,eq_zero_or_pos→Zz,add_sub_cancel→ZA,le_max_right→ZE,lt_or_ge→ZT
open Go.Proofs.Tryz renaming prog→Qo
open Int renaming toNat_natCast→Qp,fdiv_eq_ediv_of_nonneg→Q3,eq_ofNat_of_zero_le→Zc,cast_ofNat_Int→Zp,lt_irrefl→Zy,ediv_nonneg→ZJ,le_of_lt→ZU,le_refl→ZV,pow_pos→ZW
open Prod.mk renaming injEq→Qq
open List.cons renaming injEq→Qx
open Array renaming getD_eq_getD_getElem?→Qy,getElem?_eq_some_iff→QA,getElem?_setIfInBounds→Zi,replicate→ZI
open Bool renaming and_eq_true→QP,false_eq_true→QQ,false_and→Zo,not_false→ZK,true_and→ZM,not_true→ZN,false_or→ZQ,or_false→ZR
open Prod renaming ext→ZY
open Go.Proofs.Tryz
noncomputable section
namespace Go.Vd
open Go.RowKit
section
variable{S:GR}{s:Nat->D}{m:GV}{fr:Id}{K:D->Ha->Prop}
def aZy{x:GW}:AF S s m fr (.mv x) K=Hl (some (x.ev s)) (λd=>K d []) .mk:=by simp[AF,exec,Hl]
def aBM:D->D->D->(K:D->Ha->Prop)->Tag K->Prop
 | .bool t,a,b,K,_=>Pd (t=true) (K a []) (K b []) .mk
 |_,_,_,_,_=>False
def jL{t:Bool}{a b:D}{g:Tag K}:aBM (.bool t) a b K g=Pd (t=true) (K a []) (K b []) .mk:=rfl
def aQi{c a b:GW}:AF S s m fr (.pick c a b) K=aBM (c.ev s) (a.ev s) (b.ev s) K .mk:=by
 simp only[AF,exec];unfold aBM;cases c.ev s<;>simp only[AX];rename_i t;cases t<;>simp[Hl,Pd]
def aHL{zs:List D}:AF S s m fr (.alloc zs) K=Hl (some fr) (λfr=>K (.ptr fr 0) [(fr,0,zs)]) .mk:=by simp[AF,exec,Hl]
def aUp{x:GW}:AF S s m fr (.box x) K=Hl (some fr) (λfr=>Hl (some (x.ev s)) (λd=>Ao (d.data=true) (K (.ptr fr 0) [(fr,0,d.cells)]) .mk) .mk) .mk:=by
 simp only[AF,exec];rw[Es,A3,A3,A3]
def aHK{zs:List D}{w:List (Nat×Nat×GW)}:AF S s m fr (.build zs w) K=Hl (Bw zs (w.map λp=>(p.1,p.2.1,p.2.2.ev s))) (λcs=>K (.agg cs) []) .mk:=by
 simp_all [AF,exec,CQ]
def aAG{e sz:Nat}{w:List GW}:AF S s m fr (.bslice e sz w) K=Hl (some fr) (λfr=>Hl (some (w.map λp=>p.ev s)) (λds=>Ao ((ds.all λd=>d.data&&d.cells.length==sz&&d.un.calm)=true) (K (.slice false fr (ds.map D.un)) [(fr,0,[.tok (e+1)])]) .mk) .mk) .mk:=by
 simp only[AF,exec];rw[Es,A3,A3,A3,List.all_map,QL];rfl
def R5:Option Nat->D->(m:GV)->(K:D->Ha->Prop)->Tag (m,K)->Prop
 |none,.ptr i o,m,K,_=>Hl (m i o) (λd=>K d []) .mk
 |some n,.ptr i o,m,K,_=>Hl (Ai m i o n) (λds=>K (.agg ds) []) .mk
 |none,.eptr ds,m,K,_=>Hl ds.head? (λd=>K d []) .mk
 |some n,.eptr ds,m,K,_=>Ao (n<=ds.length) (K (.agg (ds.take n)) []) .mk
 |_,_,_,_,_=>False
def xB{i:Id}{o:Nat}{g:Tag (m,K)}:R5 none (.ptr i o) m K g=Hl (m i o) (λd=>K d []) .mk:=rfl
def kF{i:Id}{o n:Nat}{g:Tag (m,K)}:R5 (some n) (.ptr i o) m K g=Hl (Ai m i o n) (λds=>K (.agg ds) []) .mk:=rfl
def R4{ds:List D}{g:Tag (m,K)}:R5 none (.eptr ds) m K g=Hl ds.head? (λd=>K d []) .mk:=rfl
def OR{ds:List D}{n:Nat}{g:Tag (m,K)}:R5 (some n) (.eptr ds) m K g=Ao (n<=ds.length) (K (.agg (ds.take n)) []) .mk:=rfl
def aQn{k:Option Nat}{x:GW}:AF S s m fr (.load k x) K=R5 k (x.ev s) m K .mk:=by
 simp only[AF,exec];unfold R5;cases x.ev s<;>cases k<;>simp only[AX,CQ,FK]
def iU(n:Nat):D->D->(m:GV)->(K:D->Ha->Prop)->Tag (m,K)->Prop
 | .ptr i o,d,m,K,_=>Ao (d.data=true∧d.cells.length=n∧(Ai m i o n).isSome=true) (K .junk [(i,o,d.cells)]) .mk
 |_,_,_,_,_=>False
def iT{n:Nat}{i:Id}{o:Nat}{d:D}{g:Tag (m,K)}:iU n (.ptr i o) d m K g=Ao (d.data=true∧d.cells.length=n∧(Ai m i o n).isSome=true) (K .junk [(i,o,d.cells)]) .mk:=rfl
def aHD{n:Nat}{x v:GW}:AF S s m fr (.store n x v) K=iU n (x.ev s) (v.ev s) m K .mk:=by
 simp only[AF,exec];unfold iU;cases x.ev s<;>simp only[AX,FK]
def Ll:D->(K:D->Ha->Prop)->Tag K->Prop
 | .ptr i o,K,_=>K (.ptr i o) []
 | .eptr ds,K,_=>K (.eptr ds) []
 | .fn f cs,K,_=>K (.fn f cs) []
 |_,_,_=>False
def cH{i:Id}{o:Nat}{g:Tag K}:Ll (.ptr i o) K g=K (.ptr i o) []:=rfl
def Vt{ds:List D}{g:Tag K}:Ll (.eptr ds) K g=K (.eptr ds) []:=rfl
def jQ{f:FuncId}{cs:List D}{g:Tag K}:Ll (.fn f cs) K g=K (.fn f cs) []:=rfl
def aAF{x:GW}:AF S s m fr (.nilchk x) K=Ll (x.ev s) K .mk:=by
 simp only[AF,exec];unfold Ll;cases x.ev s<;>simp[AX,A3]
def jI(fr:Id):D->(K:D->Ha->Prop)->Tag K->Prop
 | .str b,K,_=>K (.itp fr) [(fr,1,[.it b 0])]
 |_,_,_=>False
def jH{b:List UInt8}{g:Tag K}:jI fr (.str b) K g=K (.itp fr) [(fr,1,[.it b 0])]:=rfl
def aHE{x:GW}:AF S s m fr (.range x) K=jI fr (x.ev s) K .mk:=by
 simp only[AF,exec];unfold jI;cases x.ev s<;>simp[AX,A3]
def qC(i:Id):D->(K:D->Ha->Prop)->Tag K->Prop
 | .it b w,K,_=>Pd (w<b.length) (K (.tup [.bool true,.int .i64 (w:Nat),.int .i32 (Utf8.decode ⟨b.toArray⟩ w).1]) [(i,1,[.it b (w+(Utf8.decode ⟨b.toArray⟩ w).2)])]) (K (.tup [.bool false]) []) .mk
 |_,_,_=>False
def aB1{i:Id}{b:List UInt8}{w:Nat}{g:Tag K}:qC i (.it b w) K g=Pd (w<b.length) (K (.tup [.bool true,.int .i64 (w:Nat),.int .i32 (Utf8.decode ⟨b.toArray⟩ w).1]) [(i,1,[.it b (w+(Utf8.decode ⟨b.toArray⟩ w).2)])]) (K (.tup [.bool false]) []) .mk:=rfl
def aB0:D->(m:GV)->(K:D->Ha->Prop)->Tag (m,K)->Prop
 | .itp i,m,K,_=>Hl (m i 1) (λx=>qC i x K .mk) .mk
 |_,_,_,_=>False
def wF{i:Id}{g:Tag (m,K)}:aB0 (.itp i) m K g=Hl (m i 1) (λx=>qC i x K .mk) .mk:=rfl
def aQj{x:GW}:AF S s m fr (.next x) K=aB0 (x.ev s) m K .mk:=by
 simp only[AF,exec];unfold aB0;cases x.ev s<;>try (simp only[AX];done)
 rename_i i;simp only;cases m i 1 with
 |none=>simp only[AX]
 |some d=>
  simp only[A3];unfold qC;cases d<;>simp only[AX];rename_i b w;rw[aLl,A3,A3]
def aUq{op:BinOp}{x y:GW}:AF S s m fr (.bin op x y) K=Hl (AQ op (x.ev s) (y.ev s)) (λd=>K d []) .mk:=X8
def aZx{op:UnOp}{x:GW}:AF S s m fr (.un op x) K=Hl (xW op (x.ev s)) (λd=>K d []) .mk:=X8
def aKe(ne:Bool):D->D->Option D
 | .bool a,.bool b=>some (.bool ((a==b)!=ne))
 |_,_=>none
def aS5{a b:Bool}:aKe false (.bool a) (.bool b)=some (.bool (decide (a=b))):=by cases a<;>cases b<;>rfl
def aS4{a b:Bool}:aKe true (.bool a) (.bool b)=some (.bool (decide (a≠b))):=by cases a<;>cases b<;>rfl
def aUr{ne:Bool}{x y:GW}:AF S s m fr (.beq ne x y) K=Hl (aKe ne (x.ev s) (y.ev s)) (λd=>K d []) .mk:=by
 simp only[AF,exec];unfold aKe;cases x.ev s<;>cases y.ev s<;>simp[AX,A3]
def aQQ(ne:Bool)(a:List (Nat×Nat)):D->D->Option D
 | .agg xs,.agg ys=>(AW xs ys a).map λb=> .bool (b !=ne)
 |_,_=>none
def ER{ne:Bool}{a:List (Nat×Nat)}{xs ys:List D}:aQQ ne a (.agg xs) (.agg ys)=(AW xs ys a).map λb=> .bool (b !=ne):=rfl
def aUj{ne:Bool}{a:List (Nat×Nat)}{x y:GW}:AF S s m fr (.seq ne a x y) K=Hl (aQQ ne a (x.ev s) (y.ev s)) (λd=>K d []) .mk:=by
 simp only[AF,exec];unfold aQQ;cases x.ev s<;>cases y.ev s<;>simp[AX,CQ]
def aHF{ne:Bool}{k:Nat}{x y:GW}:AF S s m fr (.nileq ne k x y) K=Hl (ID k (x.ev s) (y.ev s)) (λb=>K (.bool (b !=ne)) []) .mk:=X8
def aE4(k:IntKind):D->Option D
 | .int _ n=>some (.int k (k.wrap n))
 |_=>none
def yT{k r:IntKind}{n:Int}:aE4 k (.int r n)=some (.int k (k.wrap n)):=rfl
def aQt{k:IntKind}{x:GW}:AF S s m fr (.conv k x) K=Hl (aE4 k (x.ev s)) (λd=>K d []) .mk:=by
 simp only[AF,exec];unfold aE4;cases x.ev s<;>simp[AX,A3]
def aQS:D->Option D
 | .str b=>some (.str b)
 |_=>none
def aBe{b:List UInt8}:aQS (.str b)=some (.str b):=rfl
def aUk{x:GW}:AF S s m fr (.s2s x) K=Hl (aQS (x.ev s)) (λd=>K d []) .mk:=by
 simp only[AF,exec];unfold aQS;cases x.ev s<;>simp[AX,A3]
def aQT:D->Option D
 | .str b=>some (.slice false [] (Aw b))
 |_=>none
def aBf{b:List UInt8}:aQT (.str b)=some (.slice false [] (Aw b)):=rfl
def aUl{x:GW}:AF S s m fr (.s2b x) K=Hl (aQT (x.ev s)) (λd=>K d []) .mk:=by
 simp only[AF,exec];unfold aQT;cases x.ev s<;>simp[AX,A3]
def aFq:D->Option D
 | .slice _ _ xs=>(BM xs).map .str
 |_=>none
def mK{nl:Bool}{t:Id}{xs:List D}:aFq (.slice nl t xs)=(BM xs).map .str:=rfl
def aUs{x:GW}:AF S s m fr (.b2s x) K=Hl (aFq (x.ev s)) (λd=>K d []) .mk:=by
 simp only[AF,exec];unfold aFq;cases x.ev s<;>simp[AX,CQ]
def E6(off:Nat):D->Option D
 | .ptr i o=>some (.ptr i (o+off))
 | .eptr ds=>if off<=ds.length then some (.eptr (ds.drop off))else none
 |_=>none
def lA{off:Nat}{i:Id}{o:Nat}:E6 off (.ptr i o)=some (.ptr i (o+off)):=rfl
def eG{off:Nat}{ds:List D}:E6 off (.eptr ds)=if off<=ds.length then some (.eptr (ds.drop off))else none:=rfl
def aHJ{off:Nat}{x:GW}:AF S s m fr (.faddr off x) K=Hl (E6 off (x.ev s)) (λd=>K d []) .mk:=by
 simp only[AF,exec];unfold E6;cases x.ev s<;>simp only[AX,FK,A3]
def VK(off:Nat):Option Nat->D->Option D
 |none,.agg cs=>cs[off]?
 |some n,.agg cs=>if off+n<=cs.length then some (.agg ((cs.drop off).take n))else none
 |_,_=>none
def eE{off:Nat}{cs:List D}:VK off none (.agg cs)=cs[off]?:=rfl
def kZ{off n:Nat}{cs:List D}:VK off (some n) (.agg cs)=if off+n<=cs.length then some (.agg ((cs.drop off).take n))else none:=rfl
def aHI{k:Option Nat}{off:Nat}{x:GW}:AF S s m fr (.field k off x) K=Hl (VK off k (x.ev s)) (λd=>K d []) .mk:=by
 simp only[AF,exec];unfold VK;cases x.ev s<;>cases k<;>simp only[AX,CQ,FK]
def VJ(sz:Nat):D->D->(K:D->Ha->Prop)->Tag K->Prop
 | .slice _ _ xs,.int _ n,K,_=>Ao (0<=n) (Hl xs[n.toNat]? (λd=>Ao (d.cells.length=sz) (K (.eptr d.cells) []) .mk) .mk) .mk
 | .row i l,.int _ n,K,_=>Ao (0<=n∧n<(l:Int)) (K (.ptr i (if sz=1 then n.toNat else n.toNat*sz)) []) .mk
 |_,_,_,_=>False
def kP{sz l:Nat}{i:Id}{k:IntKind}{n:Int}{g:Tag K}:VJ sz (.row i l) (.int k n) K g=Ao (0<=n∧n<(l:Int)) (K (.ptr i (if sz=1 then n.toNat else n.toNat*sz)) []) .mk:=rfl
def VI{sz:Nat}{nl:Bool}{t:Id}{xs:List D}{k:IntKind}{n:Int}{g:Tag K}:VJ sz (.slice nl t xs) (.int k n) K g=Ao (0<=n) (Hl xs[n.toNat]? (λd=>Ao (d.cells.length=sz) (K (.eptr d.cells) []) .mk) .mk) .mk:=rfl
def aHG{sz:Nat}{x i:GW}:AF S s m fr (.iaddr sz x i) K=VJ sz (x.ev s) (i.ev s) K .mk:=by
 simp only[AF,exec];unfold VJ;cases x.ev s<;>cases i.ev s<;>first|(simp only[AX];done)|(simp only[FK,Ao];done)|skip
 rename_i nl t xs k n;rw[Es];simp only[Ao];congr 1;cases xs[n.toNat]? with
 |none=>simp only[AX]
 |some d=>simp only[A3,FK,Ao]
def aDd:D->D->(K:D->Ha->Prop)->Tag K->Prop
 | .str b,.int _ n,K,_=>Ao (0<=n) (Hl b[n.toNat]? (λc=>K (.int .u8 (c.toNat:Int)) []) .mk) .mk
 |_,_,_,_=>False
def xJ{b:List UInt8}{k:IntKind}{n:Int}{g:Tag K}:aDd (.str b) (.int k n) K g=Ao (0<=n) (Hl b[n.toNat]? (λc=>K (.int .u8 (c.toNat:Int)) []) .mk) .mk:=rfl
def aQo{x i:GW}:AF S s m fr (.idxs x i) K=aDd (x.ev s) (i.ev s) K .mk:=by
 simp only[AF,exec];unfold aDd;cases x.ev s<;>cases i.ev s<;>try simp only[AX]
 rw[Es,CQ]
def kS(len sz:Nat):D->D->(K:D->Ha->Prop)->Tag K->Prop
 | .ptr j o,.int _ n,K,_=>Ao (0<=n∧n<(len:Int)) (K (.ptr j (o+n.toNat*sz)) []) .mk
 |_,_,_,_=>False
def kQ{len sz o:Nat}{j:Id}{k:IntKind}{n:Int}{g:Tag K}:kS len sz (.ptr j o) (.int k n) K g=Ao (0<=n∧n<(len:Int)) (K (.ptr j (o+n.toNat*sz)) []) .mk:=rfl
def aHH{len sz:Nat}{x i:GW}:AF S s m fr (.iadda len sz x i) K=kS len sz (x.ev s) (i.ev s) K .mk:=by
 simp only[AF,exec];unfold kS;cases x.ev s<;>cases i.ev s<;>try simp only[AX]
 rw[FK,Ao]
def aDe(len sz:Nat):D->D->(K:D->Ha->Prop)->Tag K->Prop
 | .agg cs,.int _ n,K,_=>Ao (0<=n∧n<(len:Int)∧n.toNat*sz+sz<=cs.length) (K (.agg ((cs.drop (n.toNat*sz)).take sz)) []) .mk
 |_,_,_,_=>False
def xK{len sz:Nat}{cs:List D}{k:IntKind}{n:Int}{g:Tag K}:aDe len sz (.agg cs) (.int k n) K g=Ao (0<=n∧n<(len:Int)∧n.toNat*sz+sz<=cs.length) (K (.agg ((cs.drop (n.toNat*sz)).take sz)) []) .mk:=rfl
def aQp{len sz:Nat}{x i:GW}:AF S s m fr (.idxm len sz x i) K=aDe len sz (x.ev s) (i.ev s) K .mk:=by
 simp only[AF,exec];unfold aDe;cases x.ev s<;>cases i.ev s<;>try simp only[AX]
 rw[FK,Ao]
def aDf(len:Nat):D->D->(K:D->Ha->Prop)->Tag K->Prop
 | .agg cs,.int _ n,K,_=>Ao (0<=n∧n<(len:Int)) (Hl cs[n.toNat]? (λd=>K d []) .mk) .mk
 |_,_,_,_=>False
def xL{len:Nat}{cs:List D}{k:IntKind}{n:Int}{g:Tag K}:aDf len (.agg cs) (.int k n) K g=Ao (0<=n∧n<(len:Int)) (Hl cs[n.toNat]? (λd=>K d []) .mk) .mk:=rfl
def aQq{len:Nat}{x i:GW}:AF S s m fr (.idxa len x i) K=aDf len (x.ev s) (i.ev s) K .mk:=by
 simp only[AF,exec];unfold aDf;cases x.ev s<;>cases i.ev s<;>try simp only[AX]
 rw[Es,CQ]
def aIX(v:Bool):D->D->Option D
 | .int k a,.int _ b=>some (.int k (if v=true then max a b else min a b))
 |_,_=>none
def aRg{k r:IntKind}{a b:Int}:aIX true (.int k a) (.int r b)=some (.int k (max a b)):=rfl
def aRh{k r:IntKind}{a b:Int}:aIX false (.int k a) (.int r b)=some (.int k (min a b)):=rfl
def aUm{v:Bool}{x y:GW}:AF S s m fr (.mxm v x y) K=Hl (aIX v (x.ev s) (y.ev s)) (λd=>K d []) .mk:=by
 simp only[AF,exec];unfold aIX;cases x.ev s<;>cases y.ev s<;>simp[AX,A3]
def Dd(b c:Nat):Option D->Option Nat
 |none=>some b
 |some (.int _ n)=>if 0<=n∧n<=c then some n.toNat else none
 |some _=>none
def H4(s:Nat->D):Option GW->Option D
 |none=>none
 |some a=>some (a.ev s)
def jP:H4 s none=none:=rfl
def jO{a:GW}:H4 s (some a)=some (a.ev s):=rfl
def fF{a b:Nat}:Dd a b none=some a:=rfl
def mF{a b:Nat}{k:IntKind}{n:Int}:Dd a b (some (.int k n))=if 0<=n∧n<=b then some n.toNat else none:=rfl
def fE{x:Option GW}{a b:Nat}:FE s x a b=Dd a b (H4 s x):=by
 cases x with
 |none=>rfl
 |some x=>simp only[FE,H4,Dd];cases x.ev s<;>rfl
def aE2:D->Option D->Option D->(K:D->Ha->Prop)->Tag K->Prop
 | .str b,lo,hi,K,_=>Hl (Dd b.length b.length hi) (λh=>Hl (Dd 0 h lo) (λl=>K (.str ((b.drop l).take (h-l))) []) .mk) .mk
 |_,_,_,_,_=>False
def yR{b:List UInt8}{lo hi:Option D}{g:Tag K}:aE2 (.str b) lo hi K g=Hl (Dd b.length b.length hi) (λh=>Hl (Dd 0 h lo) (λl=>K (.str ((b.drop l).take (h-l))) []) .mk) .mk:=rfl
def aQr{x:GW}{lo hi:Option GW}:AF S s m fr (.cuts x lo hi) K=aE2 (x.ev s) (H4 s lo) (H4 s hi) K .mk:=by
 simp only[AF,exec];unfold aE2;cases x.ev s<;>simp only[AX,fE];rename_i b;cases Dd b.length b.length (H4 s hi)with
 |none=>simp only[AX]
 |some h=>
  simp only[A3];cases Dd 0 h (H4 s lo)with
  |none=>simp only[AX]
  |some l=>simp only[A3]
def aE3(sz:Nat):D->Option D->Option D->(K:D->Ha->Prop)->Tag K->Prop
 | .slice nl _ xs,lo,hi,K,_=>Ao (aF xs sz=sz) (Hl (Dd xs.length xs.length hi) (λh=>Hl (Dd 0 h lo) (λl=>K (.slice nl [] ((xs.drop l).take (h-l))) []) .mk) .mk) .mk
 |_,_,_,_,_=>False
def eV{sz:Nat}{nl:Bool}{t:Id}{xs:List D}{lo hi:Option D}{g:Tag K}:aE3 sz (.slice nl t xs) lo hi K g=Ao (aF xs sz=sz) (Hl (Dd xs.length xs.length hi) (λh=>Hl (Dd 0 h lo) (λl=>K (.slice nl [] ((xs.drop l).take (h-l))) []) .mk) .mk) .mk:=rfl
def aQs{sz:Nat}{x:GW}{lo hi:Option GW}:AF S s m fr (.cutl sz x lo hi) K=aE3 sz (x.ev s) (H4 s lo) (H4 s hi) K .mk:=by
 simp only[AF,exec];unfold aE3;cases x.ev s<;>simp only[AX,fE];rename_i nl t xs;rw[Es];cases Dd xs.length xs.length (H4 s hi)with
 |none=>simp[Hl,Ao]
 |some h=>
  simp only;cases h1:Dd 0 h (H4 s lo)with
  |none=>simp[Hl,Ao,h1]
  |some l=>simp[Hl,Ao,h1]
def aQl{t:TypeId}{x:GW}:AF S s m fr (.mkif t x) K=Ao ((x.ev s).data=true∧(x.ev s).un.calm=true) (K (.iface t (x.ev s).un) []) .mk:=by
 simp only[AF,exec];rw[Es,A3]
def aSL(i:Nat):D->Option D
 | .tup vs=>vs[i]?
 |_=>none
def aDw{i:Nat}{vs:List D}:aSL i (.tup vs)=vs[i]?:=rfl
def aUo{i:Nat}{x:GW}:AF S s m fr (.ext i x) K=Hl (aSL i (x.ev s)) (λd=>K d []) .mk:=by
 simp only[AF,exec];unfold aSL;cases x.ev s<;>simp[AX,CQ]
def aQm{f:FuncId}{caps:List GW}:AF S s m fr (.mkfn f caps) K=K (.fn f (caps.map (·.ev s))) []:=by simp[AF,exec,Hl]
def aUn{b:Bool}{x:GW}:AF S s m fr (.len b x) K=Hl (dD b (x.ev s)) (λn=>K (.int .i64 (n:Int)) []) .mk:=X8
def aCy{b:List UInt8}:dD true (.str b)=some b.length:=rfl
def kG{nl:Bool}{t:Id}{xs:List D}:dD false (.slice nl t xs)=some xs.length:=rfl
def aCz{i:Id}{n:Nat}:dD false (.row i n)=some n:=rfl
def I9(m:GV)(e:Nat):D->Prop
 | .slice nl t _=>nl=true∨(m t 0=some (.tok (e+1))∧t≠[])
 |_=>False
def Be(e:Nat)(fr:Id):D->Ha
 | .slice true _ _=>[(fr,0,[.tok (e+1)])]
 | .slice false t _=>[(t,0,[.tok 0]),(fr,0,[.tok (e+1)])]
 |_=>[]
def aS7(e sz bytes:Nat)(fr:Id):D->Option (List D)->(m:GV)->(K:D->Ha->Prop)->Tag (m,K)->Prop
 | .slice nl t xs,some ys,m,K,_=>Pd (nl=true∧ys=[]) (K (.slice true [] []) [])
   (Ao ((xs.length+ys.length)*(bytes+1)<=140737488355328∧aF ys sz=sz∧I9 m e (.slice nl t xs)) (K (.slice false fr (if nl=true then ys else xs++ys)) (Be e fr (.slice nl t xs))) .mk) .mk
 |_,_,_,_,_=>False
def We{sz:Nat}{nl:Bool}{t:Id}{ys:List D}:I1 sz (.slice nl t ys)=some ys:=rfl
def mL{sz:Nat}{b:List UInt8}:I1 sz (.str b)=if sz=1 then some (Aw b)else none:=rfl
def mM{e sz bytes:Nat}{nl:Bool}{t:Id}{xs ys:List D}{g:Tag (m,K)}:aS7 e sz bytes fr (.slice nl t xs) (some ys) m K g=Pd (nl=true∧ys=[]) (K (.slice true [] []) [])
   (Ao ((xs.length+ys.length)*(bytes+1)<=140737488355328∧aF ys sz=sz∧I9 m e (.slice nl t xs)) (K (.slice false fr (if nl=true then ys else xs++ys)) (Be e fr (.slice nl t xs))) .mk) .mk:=rfl
def Ba{nl:Bool}{xs ys:List D}(h:nl=true->xs=[]):(if nl=true then ys else xs++ys)=xs++ys:=by
 simp_all
def aUt{e sz bytes:Nat}{x y:GW}:AF S s m fr (.app e sz bytes x y) K=aS7 e sz bytes fr (x.ev s) (I1 sz (y.ev s)) m K .mk:=by
 simp only[AF,exec];unfold aS7;cases x.ev s<;>cases I1 sz (y.ev s)<;>simp only[AX];rename_i nl t xs ys;by_cases u:nl=true∧ys=[]
 ·grind [A3,Pd]
 ·rw[if_neg u];have p:∀A B:Prop,Pd (nl=true∧ys=[]) A B .mk=B:=λA B=>by simp[Pd,u]
  rw[p,Es];cases nl with
  |true=>simp[Hl,Ao,Be,I9,and_assoc]
  |false=>
   simp only[QQ,I9,Be,false_or];cases hm:m t 0 with
   |none=>simp[Hl,Ao]
   |some d=>
    cases d with
    |tok k=>
     by_cases j:k=e+1∧t≠[]
     ·grind [Hl,Ao]
     ·grind [Hl,Ao]
    |_=>simp[Hl,Ao]
def aB7(e sz bytes:Nat)(z:D)(fr:Id):D->D->(K:D->Ha->Prop)->Tag K->Prop
 | .int _ n,.int _ c,K,_=>Ao (0<=n∧n<=c∧c*(bytes+1)<=140737488355328∧z.cells.length=sz) (if z.isRw=true then Ao (n=c) (K (.row fr n.toNat) [(fr,0,Zd n.toNat z)]) .mk else K (.slice false fr (Zd n.toNat z)) [(fr,0,[.tok (e+1)])]) .mk
 |_,_,_,_=>False
def wH{e sz bytes:Nat}{z:D}{k r:IntKind}{n c:Int}{g:Tag K}:aB7 e sz bytes z fr (.int k n) (.int r c) K g=Ao (0<=n∧n<=c∧c*(bytes+1)<=140737488355328∧z.cells.length=sz) (if z.isRw=true then Ao (n=c) (K (.row fr n.toNat) [(fr,0,Zd n.toNat z)]) .mk else K (.slice false fr (Zd n.toNat z)) [(fr,0,[.tok (e+1)])]) .mk:=rfl
def aJN:D.isRw .nilIface=true:=rfl
def aC5{k:IntKind}{n:Int}:D.isRw (.int k n)=false:=rfl
def aC4:D.isRw (.str [])=true:=rfl
def xF{b:Bool}:D.isRw (.bool b)=false:=rfl
def kN{nl:Bool}{t:Id}{xs:List D}:D.isRw (.slice nl t xs)=false:=rfl
def aC6{xs:List D}:D.isRw (.agg xs)=false:=rfl
def aQk{e sz bytes:Nat}{z:D}{n c:GW}:AF S s m fr (.mksl e sz bytes z n c) K=aB7 e sz bytes z fr (n.ev s) (c.ev s) K .mk:=by
 simp only[AF,exec];unfold aB7;cases n.ev s<;>cases c.ev s<;>first|(simp only[AX];done)|skip
 by_cases j:z.isRw=true
 ·simp_all [Es,A3,Ao]
 ·simp_all [Es,A3,Ao]
def SG(S:GR):D->List D->(m:GV)->Id->(K:D->Ha->Prop)->Tag (m,K)->Prop
 | .fn f caps,ds,m,fr,K,_=>Hl (S f) (λq=>Hl (q.ex (ds++caps) m fr) (λx=>K x.1 x.2) .mk) .mk
 |_,_,_,_,_,_=>False
def aQu{f:GW}{xs:List GW}:AF S s m fr (.call f xs) K=SG S (f.ev s) (xs.map (·.ev s)) m fr K .mk:=by
 simp only[AF,exec];unfold SG;cases f.ev s<;>simp only[AX];rename_i f caps;cases S f with
 |none=>simp only[AX]
 |some q=>simp only[A3]
def A7{f:FuncId}{caps ds:List D}{q:HA}{g:Tag (m,K)}(h:S f=some q):SG S (.fn f caps) ds m fr K g=Hl (q.ex (ds++caps) m fr) (λx=>K x.1 x.2) .mk:=by
 grind [SG,A3]
def Ab{f:FuncId}{caps ds:List D}{F:List D->Option D}{g:Tag (m,K)}(h:S f=some (Ac F)):SG S (.fn f caps) ds m fr K g=Ao (((ds++caps).map D.un).all D.calm=true) (Hl (F ((ds++caps).map D.un)) (λr=>K r []) .mk) .mk:=by
 rw[A7 h];simp only[Ac,Es,Ao];rw[CQ]
def Bu(S:GR)(f:FuncId){q:HA}(h:S f=some q:=by exact rfl){caps ds:List D}{g:Tag (m,K)}:SG S (.fn f caps) ds m fr K g=Hl (q.ex (ds++caps) m fr) (λx=>K x.1 x.2) .mk:=A7 h
def Ad(S:GR)(f:FuncId){F:List D->Option D}(h:S f=some (Ac F):=by exact rfl){caps ds:List D}{g:Tag (m,K)}:SG S (.fn f caps) ds m fr K g=Ao (((ds++caps).map D.un).all D.calm=true) (Hl (F ((ds++caps).map D.un)) (λr=>K r []) .mk) .mk:=Ab h
end
def Af{S:GR}{ns:Id}{c b:DC}{Q:Ex->St->Prop}{z:St}{t:Tag (S,ns,c,Q,z)}(h:c=b)(k:b.wp S ns (cT S ns c Q) z):AK S ns c Q z t:=aAI (h▸k)
section
variable{k:IntKind}{a b:Int}
def aUM:AQ .add (.int k a) (.int k b)=some (.int k (k.wrap (a+b))):=Xm
def aMl:AQ .sub (.int k a) (.int k b)=some (.int k (k.wrap (a-b))):=Xm
def aUE:AQ .mul (.int k a) (.int k b)=some (.int k (k.wrap (a*b))):=Xm
def aUA:AQ .quo (.int k a) (.int k b)=if b≠0 then some (.int k (k.wrap (a.tdiv b)))else none:=by by_cases h:b=0<;>simp[AQ,h]
def aUz:AQ .rem (.int k a) (.int k b)=if b≠0 then some (.int k (a.tmod b))else none:=by by_cases h:b=0<;>simp[AQ,h]
def aUL:AQ .and (.int k a) (.int k b)=some (.int k (bits .and k a b)):=Xm
def aZD:AQ .or (.int k a) (.int k b)=some (.int k (bits .or k a b)):=Xm
def aUw:AQ .xor (.int k a) (.int k b)=some (.int k (bits .xor k a b)):=Xm
def aUJ:AQ .eql (.int k a) (.int k b)=some (.bool (decide (a=b))):=by simp[AQ];rfl
def aUC:AQ .neq (.int k a) (.int k b)=some (.bool (decide (¬a=b))):=by simp[AQ];rfl
def aUF:AQ .lss (.int k a) (.int k b)=some (.bool (decide (a<b))):=Xm
def aUG:AQ .leq (.int k a) (.int k b)=some (.bool (decide (a<=b))):=Xm
def aUH:AQ .gtr (.int k a) (.int k b)=some (.bool (decide (b<a))):=Xm
def aUI:AQ .geq (.int k a) (.int k b)=some (.bool (decide (b<=a))):=Xm
def aUy{r:IntKind}:AQ .shl (.int k a) (.int r b)=if 0<=b then some (.int k (k.wrap (a*2 ^ min b.toNat k.bits)))else none:=Xm
def aUx{r:IntKind}:AQ .shr (.int k a) (.int r b)=if 0<=b then some (.int k (a.fdiv (2 ^ min b.toNat k.bits)))else none:=Xm
variable{x y:List UInt8}
def aUK:AQ .add (.str x) (.str y)=if x.length+y.length<=9223372036854775807 then some (.str (x++y))else none:=Xm
def aQB:AQ .eql (.str x) (.str y)=some (.bool (decide (x=y))):=by
 grind [AQ]
def aQA:AQ .neq (.str x) (.str y)=some (.bool (decide (¬x=y))):=by
 grind [AQ]
def aUB{p:Bool}:xW .not (.bool p)=some (.bool (!p)):=rfl
def aUD:xW .neg (.int k a)=some (.int k (k.wrap (0-a))):=rfl
end
def aIV{p:Prop}[Decidable p]:(!decide p)=decide (¬p):=by by_cases h:p<;>simp[h]
def aDL{p:Prop}[Decidable p]:(decide p=true)=p:=U
def yM{p:Prop}[Decidable p]:(decide p=false)=¬p:=U
def bAq:(false=true)=False:=U
def aZE:(true=false)=False:=U
def aJO{p A B:Prop}{t:Tag (A,B)}:Pd (¬p) A B t=Pd p B A .mk:=by
 grind [Pd]
def vF{o:DOper}{l:List DOper}:DI (o::l) 0=o.dst:=rfl
def vG{o:DOper}{l:List DOper}{j:Nat}:DI (o::l) (j+1)=DI l j:=by simp[DI]
def aKg{m:GV}:Ha.app m []=m:=rfl
def aFu{m:GV}{i:Id}{o:Nat}{ds:List D}{u:Ha}:Ha.app m ((i,o,ds)::u)=Ha.app (m.put i o ds) u:=rfl
def WR:BM []=some []:=rfl
def US{n:Int}{r:List D}:BM (.int .u8 n::r)=(BM r).map (UInt8.ofNat n.toNat::·):=rfl
def Vn{α β:Type}{f:α->β}{x:α}:(some x).map f=some (f x):=rfl
def eJ{rs:List RV}{R:D->GV->Prop}{z:St}:DV rs R .normal z=Hl (B6 rs z.s z.m) (λd=>R d z.m) .mk:=by
 simp[DV,Hl]
def aDz{rs:List RV}{R:D->GV->Prop}{z:St}:DV rs R .ret z=Hl (B6 rs z.s z.m) (λd=>R d z.m) .mk:=by
 simp[DV,Hl]
def xZ{rs:List RV}{R:D->GV->Prop}{z:St}{i:Nat}:DV rs R (.exit i) z=False:=by
 simp[DV]
def aIy{s:Nat->D}{m:GV}{t:Nat}:B6 [.t t] s m=some (s t):=rfl
def aIx{s:Nat->D}{m:GV}{t n:Nat}:B6 [.t t,.t n] s m=some (.tup [s t,s n]):=rfl
def vT{s:Nat->D}{m:GV}{t n j:Nat}:B6 [.t t,.t n,.t j] s m=some (.tup [s t,s n,s j]):=rfl
def aBy{s:Nat->D}{m:GV}:B6 [] s m=some (.tup []):=rfl
def lC{d:D}{ds:List D}:Bz (d::ds) 0=d:=rfl
def lD{d:D}{ds:List D}{t:Nat}:Bz (d::ds) (t+1)=Bz ds t:=rfl
def xX{t:Nat}:Bz [] t= .junk:=rfl
def bK(S:GR)(ns:Id)(c:Nat)(ops l:List DOper)(k:Nat)(s:Nat->D)(dst:Option Nat)(m:GV)(K:Nat->(Nat->D)->GV->Prop)(d:D)(u:Ha):Prop:=F_ S ns c ops l k (AG s dst d) (Ha.app m u) K
def Om(S:GR)(ns:Id)(c:Nat)(ops l:List DOper)(k:Nat)(s:Nat->D)(dst:Option Nat)(m:GV)(op:DOp)(K:Nat->(Nat->D)->GV->List Ml->Prop)(d:D)(u:Ha):Prop:=
 Ct S ns c ops l k (AG s dst d) (Ha.app m u) λr z m' f=>K r z m' ((GZ S s m op,An u)::f)
section
variable{S:GR}{ns:Id}{c k:Nat}{ops l:List DOper}{s:Nat->D}{m:GV}{dst:Option Nat}{op:DOp}{af:List Nat}{j:Nat}{b:Bool}{d:D}{i:Id}{o e:Nat}{fr:Id}{ds:List D}{u:Ha}
section
variable{K:Nat->(Nat->D)->GV->Prop}
def aIu:F_ S ns c ops [] k s m K=K k s m:=rfl
def aIt:F_ S ns c ops (⟨dst,op,af,none⟩::l) k s m K=AF S s m ((c+k)::ns) op (bK S ns c ops l (k+1) s dst m K):=rfl
def aQW:F_ S ns c ops (⟨dst,op,af,some (j,b)⟩::l) k s m K=L5 (GL s (DI ops j)) b
   (AF S s m ((c+k)::ns) op (bK S ns c ops l (k+1) s dst m K)) (F_ S ns c ops l (k+1) (AG s dst (.tup [])) m K) .mk:=rfl
def aBo:bK S ns c ops l k s dst m K d []=F_ S ns c ops l k (AG s dst d) m K:=rfl
def vO:bK S ns c ops l k s dst m K d ((i,o,ds)::u)=bK S ns c ops l k s dst (m.put i o ds) K d u:=rfl
def TK{n:D}:bK S ns c ops l k s dst m K d (Be e fr n)=F_ S ns c ops l k (AG s dst d) (Ha.app m (Be e fr n)) K:=rfl
end
variable{K:Nat->(Nat->D)->GV->List Ml->Prop}
def yC:Ct S ns c ops [] k s m K=K k s m []:=rfl
def yB:Ct S ns c ops (⟨dst,op,af,none⟩::l) k s m K=AF S s m ((c+k)::ns) op (Om S ns c ops l (k+1) s dst m op K):=rfl
def aDD:Ct S ns c ops (⟨dst,op,af,some (j,b)⟩::l) k s m K=L5 (GL s (DI ops j)) b
   (AF S s m ((c+k)::ns) op (Om S ns c ops l (k+1) s dst m op K))
   (Ct S ns c ops l (k+1) (AG s dst (.tup [])) m λr z m' f=>K r z m' ((GZ S s m op,[])::f)) .mk:=rfl
def lF:Om S ns c ops l k s dst m op K d []=Ct S ns c ops l k (AG s dst d) m λr z m' f=>K r z m' ((GZ S s m op,[])::f):=rfl
def eN:Om S ns c ops l k s dst m op K d ((i,o,ds)::u)=Ct S ns c ops l k (AG s dst d) (Ha.app (m.put i o ds) u) λr z m' f=>K r z m' ((GZ S s m op,An ((i,o,ds)::u))::f):=rfl
def eM{n:D}:Om S ns c ops l k s dst m op K d (Be e fr n)=Ct S ns c ops l k (AG s dst d) (Ha.app m (Be e fr n)) λr z m' f=>K r z m' ((GZ S s m op,An (Be e fr n))::f):=rfl
end
def aE0{k:IntKind}{n:Int}:D.data (.int k n)=true:=rfl
def aEY{b:List UInt8}:D.data (.str b)=true:=rfl
def yQ{b:Bool}:D.data (.bool b)=true:=rfl
def lV{nl:Bool}{t:Id}{xs:List D}:D.data (.slice nl t xs)=true:=rfl
def aE1{xs:List D}:D.data (.agg xs)=true:=rfl
def aEZ{i:Id}{o:Nat}:D.data (.ptr i o)=true:=rfl
def eT:D.data .nilptr=true:=rfl
def yX{k:IntKind}{n:Int}:D.cells (.int k n)=[.int k n]:=rfl
def yV{b:List UInt8}:D.cells (.str b)=[.str b]:=rfl
def lW{b:Bool}:D.cells (.bool b)=[.bool b]:=rfl
def FA{nl:Bool}{t:Id}{xs:List D}:D.cells (.slice nl t xs)=[.slice nl t xs]:=rfl
def yY{xs:List D}:D.cells (.agg xs)=xs:=rfl
def yW{i:Id}{o:Nat}:D.cells (.ptr i o)=[.ptr i o]:=rfl
def aQF{k:IntKind}{n:Int}:D.un (.int k n)= .int k n:=rfl
def aQE{b:List UInt8}:D.un (.str b)= .str b:=rfl
def aHY{b:Bool}:D.un (.bool b)= .bool b:=rfl
def aAQ{nl:Bool}{t:Id}{xs:List D}:D.un (.slice nl t xs)= .slice nl [] xs:=rfl
def aQG{xs:List D}:D.un (.agg xs)= .agg (xs.map D.un1):=rfl
def aUN{f:FuncId}{cs:List D}:D.un (.fn f cs)= .fn f cs:=rfl
def aH4{k:IntKind}{n:Int}:D.un1 (.int k n)= .int k n:=rfl
def aH3{b:List UInt8}:D.un1 (.str b)= .str b:=rfl
def aAS{b:Bool}:D.un1 (.bool b)= .bool b:=rfl
def uR{nl:Bool}{t:Id}{xs:List D}:D.un1 (.slice nl t xs)= .slice nl [] xs:=rfl
def aH1{k:IntKind}{n:Int}:D.unR (.int k n)= .int k n:=rfl
def aH0{b:List UInt8}:D.unR (.str b)= .str b:=rfl
def aAR{b:Bool}:D.unR (.bool b)= .bool b:=rfl
def uQ{nl:Bool}{t:Id}{xs:List D}:D.unR (.slice nl t xs)= .slice nl [] xs:=rfl
def aH2{xs:List D}:D.unR (.agg xs)= .agg (xs.map D.un1):=rfl
def aHZ{xs:List D}:D.unR (.tup xs)= .tup (xs.map D.un):=rfl
def aFg{k:IntKind}{n:Int}:D.calm (.int k n)=true:=rfl
def aFe{b:List UInt8}:D.calm (.str b)=true:=rfl
def yZ{b:Bool}:D.calm (.bool b)=true:=rfl
def lY{nl:Bool}{xs:List D}:D.calm (.slice nl [] xs)=true:=rfl
def zA{xs:List D}:D.calm (.agg xs)=xs.all D.calm1:=rfl
def aKa{f:FuncId}:D.calm (.fn f [])=true:=rfl
def zG{k:IntKind}{n:Int}:D.calm1 (.int k n)=true:=rfl
def zF{b:List UInt8}:D.calm1 (.str b)=true:=rfl
def mB{b:Bool}:D.calm1 (.bool b)=true:=rfl
def fC{nl:Bool}{xs:List D}:D.calm1 (.slice nl [] xs)=true:=rfl
def zD{k:IntKind}{n:Int}:D.calmR (.int k n)=true:=rfl
def zC{b:List UInt8}:D.calmR (.str b)=true:=rfl
def mA{b:Bool}:D.calmR (.bool b)=true:=rfl
def fB{nl:Bool}{xs:List D}:D.calmR (.slice nl [] xs)=true:=rfl
def zE{xs:List D}:D.calmR (.agg xs)=xs.all D.calm1:=rfl
def zB{xs:List D}:D.calmR (.tup xs)=xs.all D.calm:=rfl
def aRv{f:D->D}{x:D}{xs:List D}:(x::xs).map f=f x::xs.map f:=rfl
def aJG{f:D->D}:ZC f []=[]:=rfl
def aRu{f:GW->D}{x:GW}{xs:List GW}:(x::xs).map f=f x::xs.map f:=rfl
def aJF{f:GW->D}:ZC f []=[]:=rfl
def aRt{f:Nat×Nat×GW->Nat×Nat×D}{x:Nat×Nat×GW}{xs:List (Nat×Nat×GW)}:(x::xs).map f=f x::xs.map f:=rfl
def aJE{f:Nat×Nat×GW->Nat×Nat×D}:ZC f []=[]:=rfl
def aWP{f:D->Bool}{x:D}{xs:List D}:(x::xs).all f=(f x&&xs.all f):=rfl
def aRC{f:D->Bool}:List.all [] f=true:=rfl
def aWN{x:D}{xs:List D}:(x::xs).length=xs.length+1:=rfl
def aRw:([]:List D).length=0:=rfl
def aWO{x:D}{xs ys:List D}:(x::xs)++ys=x::(xs++ys):=rfl
def aRB{ys:List D}:[]++ys=ys:=rfl
def aRA{ys:List D}:ys++[]=ys:=U
def aRz{x:D}{xs:List D}:(x::xs)[0]?=some x:=rfl
def aRy{x:D}{xs:List D}{n:Nat}:(x::xs)[n+1]?=xs[n]?:=rfl
def aRx{x:D}{xs:List D}:(x::xs).head?=some x:=rfl
def aWI{n:Nat}:(n==n)=true:=U
def aQ3:(True∧True)=True:=U
def aU0{p:Prop}:(True∧p)=p:=U
def aQ4{p:Prop}:(p∧True)=p:=U
def aZP:(¬False)=True:=U
def aZO:(¬True)=False:=U
def bAw:(true=true)=True:=U
def bAx:(false=false)=True:=U
def bAr:decide True=true:=U
def bAs:decide False=false:=U
def GQ:=Qh @W6 <| Qh @aBc <| Qh @vL <| Qh @Tq <| Qh @mG <| Qh @El <| Qh @VC <| Qh @wP <| Qh @kE <| Qh @aAH <| Qh @aHO <| Qh @aAJ <| Qh @aHM <| Qh @WI <| Qh @iG <| Qh @uM <| Qh @WH <| Qh @iF <| Qh @vI <| Qh @vJ <| Qh @bE <| Qh @bF <| Qh @aZy <| Qh @aQi <| Qh @aHL <| Qh @aUp <| Qh @aHK <| Qh @aAG <| Qh @aQn <| Qh @aHE <| Qh @aQj <| Qh @aHD <| Qh @aAF <| Qh @aUq <| Qh @aZx <| Qh @aUr <| Qh @aUj <| Qh @aHF <| Qh @aQt <| Qh @aUk <| Qh @aUl <| Qh @aUs <| Qh @aHJ <| Qh @aHI <| Qh @aHG <| Qh @aQo <| Qh @aQq <| Qh @aQp <| Qh @aUm <| Qh @aHH <| Qh @aQr <| Qh @aQs <| Qh @aQl <| Qh @aUo <| Qh @aQm <| Qh @aUn <| Qh @aUt <| Qh @aQk <| Qh @aQu <| Qh @eJ <| Qh @aDz <| Qh @xZ <| Qh @aIy <| Qh @aIx <| Qh @vT <| Qh @aBy <| Qh @aIu <| Qh @aIt <| Qh @aQW <| Qh @aBo <| Qh @vO <| Qh @TK <| Qh @lF <| Qh @eN <| Qh @eM <| Qh @yC <| Qh @yB <| Qh @aDD <| Qh @vF @vG
def GX:=Qh @UM <| Qh @aDc <| Qh @xI <| Qh @A3 <| Qh @AX <| Qh @Es <| Qh @CQ <| Qh @IL <| Qh @kX <| Qh @CX <| Qh @Me <| Qh @jL <| Qh @xB <| Qh @jH <| Qh @wF <| Qh @aB1 <| Qh @kF <| Qh @R4 <| Qh @OR <| Qh @iT <| Qh @cH <| Qh @Vt <| Qh @jQ <| Qh @aS5 <| Qh @aS4 <| Qh @ER <| Qh @yT <| Qh @aBe <| Qh @aBf <| Qh @mK <| Qh @lA <| Qh @eG <| Qh @eE <| Qh @kZ <| Qh @VI <| Qh @xJ <| Qh @xL <| Qh @xK <| Qh @aRg <| Qh @aRh <| Qh @kQ <| Qh @yR <| Qh @eV <| Qh @jP <| Qh @jO <| Qh @fF <| Qh @mF <| Qh @aDw <| Qh @aCy <| Qh @kG <| Qh @aCz <| Qh @mM <| Qh @We <| Qh @mL <| Qh @wH <| Qh @aJN <| Qh @aC5 <| Qh @aC4 <| Qh @xF <| Qh @kN <| Qh @aC6 <| Qh @kP <| Qh @aUM <| Qh @aMl <| Qh @aUE <| Qh @aUA <| Qh @aUz <| Qh @aUL <| Qh @aZD <| Qh @aUw <| Qh @aUJ <| Qh @aUC <| Qh @aUF <| Qh @aUG <| Qh @aUH <| Qh @aUI <| Qh @aUy <| Qh @aUx <| Qh @aUK <| Qh @aQB <| Qh @aQA <| Qh @aUB <| Qh @aUD <| Qh @aIV <| Qh @aDL <| Qh @yM <| Qh @bAq <| Qh @aZE <| Qh @aJO <| Qh @aKg <| Qh @aFu <| Qh @WR <| Qh @US <| Qh @Vn <| Qh @lC <| Qh @lD @xX
def Hx:=Qh @aE0 <| Qh @aEY <| Qh @yQ <| Qh @lV <| Qh @aE1 <| Qh @aEZ <| Qh @eT <| Qh @yX <| Qh @yV <| Qh @lW <| Qh @FA <| Qh @yY <| Qh @yW <| Qh @aQF <| Qh @aQE <| Qh @aHY <| Qh @aAQ <| Qh @aQG <| Qh @aUN <| Qh @aH4 <| Qh @aH3 <| Qh @aAS <| Qh @uR <| Qh @aH1 <| Qh @aH0 <| Qh @aAR <| Qh @uQ <| Qh @aH2 <| Qh @aHZ <| Qh @aFg <| Qh @aFe <| Qh @yZ <| Qh @lY <| Qh @zA <| Qh @aKa <| Qh @zG <| Qh @zF <| Qh @mB <| Qh @fC <| Qh @zD <| Qh @zC <| Qh @mA <| Qh @fB <| Qh @zE @zB
def Hf:=Qh @aRv <| Qh @aJG <| Qh @aRu <| Qh @aJF <| Qh @aRt <| Qh @aJE <| Qh @aWP <| Qh @aRC <| Qh @aWN <| Qh @aRw <| Qh @aWO <| Qh @aRB <| Qh @aRA <| Qh @aRz <| Qh @aRy <| Qh @aRx <| Qh @aWI <| Qh @aQ3 <| Qh @aU0 <| Qh @aQ4 <| Qh @aZP <| Qh @aZO <| Qh @bAw <| Qh @bAx <| Qh @bAr <| Qh @bAs <| Qh @ZM <| Qh @Bool.and_true <| Qh @ZN @ZK
def GU:(type_of% @Qw.{0,0})∧(type_of% @QN.{0,0})∧(type_of% @GX)∧(type_of% @Hx)∧(type_of% @Hf):=
 ⟨@Qw,@QN,@GX,@Hx,@Hf⟩
def Hb:(type_of% @Qs.{0})∧(type_of% @QH.{0})∧(type_of% @QV.{0})∧(type_of% @Ze)∧(type_of% @QE)∧(type_of% @QY)∧(type_of% @and_self)∧(type_of% @GX)∧(type_of% @Hx)∧(type_of% @Hf):=
 ⟨@Qs,@QH,@QV,@Ze,@QE,@QY,@and_self,@GX,@Hx,@Hf⟩
def GT:(type_of% @GX)∧(type_of% @Hx)∧(type_of% @Hf):=
 ⟨@GX,@Hx,@Hf⟩
def Hs:(type_of% @QH.{0})∧(type_of% @QV.{0})∧(type_of% @QE):=
 ⟨@QH,@QV,@QE⟩
def Al {P:Program} {f:FuncId} {N:Nat} {b:DC} {rs:List RV} {n:Func} {y:Code} (u:P.funcs[f]?=some n) (q:n.body=some y:=by rfl) (d:(n.name== "runtime.NumGoroutine")=false:=by kernel_rfl) (x:n.ntmps=N:=by rfl) (k:AA P N y=some b:=by kernel_rfl) (i:LI P n.results.toList=some rs:=by kernel_rfl):Fn P f N b rs:=⟨n,y,u,q,d,x,k,i⟩
def startG(G:Nat->Nat):Gh:={G:=G,G0:=G,dl:=λ_=>none,tb:=λ_=>none}
def NT(P:Program)(w:World){G:Nat->Nat}(r:∀b,w.heap.size<=b->G b=0):Hc P w.heap.size w (λ_ _=>none) w (startG G):=
 ⟨Below.refl _ _,Qz _,r,λ_ _=>rfl,λi b h=>by simp[startG]at h,λi a b h=>by simp[startG]at h,λi o d h=>Xf,λi e h=>Xf,λi a e t b x v h=>Xf,λi s p h=>Xf,λi a s p z y b x v h=>Xf⟩
def aQV{P:Program}{f:FuncId}{F:List D->Option D}(h:(Ac F).ok P f){w:World}{G:Nat->Nat}(o:∀b,w.heap.size<=b->G b=0){ds:List D}{vs:List Value}{d:D}(hl:vs.length=ds.length)
  (m:∀(j:Nat) d v,ds[j]?=some d->vs[j]?=some v->Rep w (startG G) d v) (a:ds.map D.un=ds) (g:ds.all D.calm=true) (k:F ds=some d):
  Calls P f vs.toArray w λe w'=>∃v c,e= .returned v∧Rep w' c d v∧Below w.heap.size w w':=by
 have z:(Ac F).ex ds (λ_ _=>none) []=some (d,[]):=by
  grind [Ac]
 refine(h.run (NT P w o) (λi _=>⟨λ_=>rfl,rfl,rfl⟩) hl m z).mono ?_;rintro e w' ⟨v,c,rfl,y⟩;exact⟨v,c,rfl,y.rep,y.inv.below⟩
def aBm{P:Program}{f:FuncId}{F:List D->Option D}(h:(Ac F).ok P f){w:World}{G:Nat->Nat}(o:∀b,w.heap.size<=b->G b=0){ds:List D}{vs:List Value}(hl:vs.length=ds.length)
  (m:∀(j:Nat) d v,ds[j]?=some d->vs[j]?=some v->Rep w (startG G) d v) (a:ds.map D.un=ds) (g:ds.all D.calm=true) (y:F ds=some (.bool true)):
  Calls P f vs.toArray w λe w'=>e= .returned (.bool true)∧Below w.heap.size w w':=by
 refine(aQV h o hl m a g y).mono ?_;rintro e w' ⟨v,p,rfl,c,i⟩;rw[c.bool_inv];exact⟨rfl,i⟩
def Ap(f:List Ml)(ps:List (Nat×Nat)):Bool:=ps.all λp=>(f.getD p.1 ([],[])).2.all λl=>!((f.getD p.2 ([],[])).1.contains l)&&!((f.getD p.2 ([],[])).2.contains l)
def Ah{f:List Ml}{ps:List (Nat×Nat)}(h:Ap f ps=true):Ma f ps:=by
 intro p o l hl;have u:=Qv.1 h p o;have q:=Qv.1 u l hl;simpa using q
def AJ{f:List Ml}{ps:List (Nat×Nat)}{K:Prop}{t:Tag K}(k:K)(h:Ap f ps=true:=by first|rfl|simp[Ap,An,GZ,Ag,Ac]):Ao (Ma f ps) K t:=⟨Ah h,k⟩
def DC.run(S:GR)(ns:Id):Nat->DC->St->Option (Ex×St)
 |0,_,_=>none
 |_+1,.skip,st=>some (.normal,st)
 |_+1,.ret,st=>some (.ret,st)
 |_+1,.exit i,st=>some (.exit i,st)
 |_+1,.row ops,st=>match Ek S ns st.c ops ops 0 st.s st.m with
  |some (s,m)=>some (.normal,⟨s,m,st.c+ops.length⟩)
  |none=>none
 |_+1,.drawn ops ps,st=>match Cs S ns st.c ops ops 0 st.s st.m with
  |some (s,m,f)=>if Ap f ps=true then some (.normal,⟨s,m,st.c+ops.length⟩)else none
  |none=>none
 |n+1,.seq a b,st=>match DC.run S ns n a st with
  |some (.normal,st1)=>DC.run S ns n b st1
  |r=>r
 |n+1,.cond c a b,st=>match c.ev st.s with
  | .bool true=>DC.run S ns n a st
  | .bool false=>DC.run S ns n b st
  |_=>none
 |n+1,.block i c,st=>match DC.run S ns n c st with
  |some (.exit j,st1)=>if j=i then some (.normal,st1)else some (.exit j,st1)
  |r=>r
 |n+1,.loop c,st=>match DC.run S ns n c st with
  |some (.normal,st1)=>DC.run S ns n (.loop c) st1
  |r=>r
def aQU{S:GR}{ns:Id}:∀(n:Nat)(x:DC)(z:St)(e:Ex)(o:St),DC.run S ns n x z=some (e,o)->Ev S ns x z e o:=by
 intro n;induction n with
 |zero=>intro x z e o h;simp[DC.run]at h
 |succ n ih=>
  intro x z e o h;cases x with
  |skip=>simp only[DC.run,Qi,Qq]at h;exact⟨h.1.symm,h.2.symm⟩
  |ret=>simp only[DC.run,Qi,Qq]at h;exact⟨h.1.symm,h.2.symm⟩
  |exit i=>simp only[DC.run,Qi,Qq]at h;exact⟨h.1.symm,h.2.symm⟩
  |row ops=>
   simp only[DC.run]at h;split at h
   ·rename_i s m q;simp only[Qi,Qq]at h;obtain⟨rfl,rfl⟩:=h;exact⟨rfl,q,rfl⟩
   ·cases h
  |drawn ops ps=>
   simp only[DC.run]at h;split at h
   ·rename_i s m f q;split at h
    ·rename_i r;simp only[Qi,Qq]at h;obtain⟨rfl,rfl⟩:=h;exact⟨rfl,⟨f,q,Ah r⟩,rfl⟩
    ·cases h
   ·cases h
  |seq a b=>
   simp only[DC.run]at h;split at h
   ·rename_i d u;exact⟨.normal,d,ih _ _ _ _ u,.inl ⟨rfl,ih _ _ _ _ h⟩⟩
   ·rename_i v;refine⟨e,o,ih _ _ _ _ h,.inr ⟨λq=>?_,rfl,rfl⟩⟩;subst q;exact v o h
  |cond c a b=>
   simp only[DC.run]at h;split at h
   ·rename_i g;exact .inl ⟨g,ih _ _ _ _ h⟩
   ·rename_i g;exact .inr ⟨g,ih _ _ _ _ h⟩
   ·cases h
  |block i c=>
   simp only[DC.run]at h;split at h
   ·rename_i j d u;split at h
    ·rename_i w;simp only[Qi,Qq]at h;obtain⟨rfl,rfl⟩:=h;exact⟨.exit j,ih _ _ _ _ u,.inl ⟨by rw[w],rfl⟩⟩
    ·rename_i w;simp only[Qi,Qq]at h;obtain⟨rfl,rfl⟩:=h;exact⟨.exit j,ih _ _ _ _ u,.inr ⟨by simp[w],rfl⟩⟩
   ·rename_i v;refine⟨e,ih _ _ _ _ h,.inr ⟨λq=>?_,rfl⟩⟩;subst q;exact v i o h
  |loop c=>
   simp only[DC.run]at h;split at h
   ·rename_i d u;obtain⟨k,hk⟩:=ih _ _ _ _ h;exact⟨k+1,.more k _ _ _ _ (ih _ _ _ _ u) hk⟩
   ·rename_i v;refine⟨0,.stop _ _ _ (ih _ _ _ _ h) (λq=>?_)⟩;subst q;exact v o h
def Ol(S:GR)(N:Nat)(b:DC)(rs:List RV)(fuel:Nat)(ds:List D):Option D:=
 if ds.length<=N then match DC.run S [] fuel b ⟨Bz ds,λ_ _=>none,0⟩with
  |some (.exit _,_)=>none
  |some (_,st)=>match B6 rs st.s st.m with
   |some d=>if d.unR.calmR=true then some d.unR else none
   |none=>none
  |none=>none
 else none
def Ok{P:Program}{S:GR}{f:FuncId}{N:Nat}{b:DC}{rs:List RV}(x:GR.ok P S)(o:Fn P f N b rs)(fuel:Nat):(Ac (Ol S N b rs fuel)).ok P f:=by
 refine AB x o (λds r h=>?_) (λds r h=>?_)
 ·grind [Ol]
 ·unfold Ol at h;split at h
  ·split at h
   ·cases h
   ·rename_i u z v j;split at h
    ·rename_i d s;split at h
     ·rename_i g;simp only[Qi]at h;subst h;refine⟨u,z,aQU _ _ _ _ _ j,?_,d,s,rfl,g⟩;cases u with
      |normal=>exact .inl rfl
      |ret=>exact .inr rfl
      |exit i=>exact absurd rfl (v i)
     ·cases h
    ·cases h
   ·cases h
  ·cases h
end Go.Vd
namespace Go.Vd
open Go.Proofs Go.RowKit
inductive Tz where
 |bo|st|pt|fu|nf|mp|un
 |im (k:IntKind)
 |sl (e sz by':Nat)
 |gr (zs:List D) (fs:List (Nat×Nat))
 |ar (zs:List D) (len e:Nat)
def zT:Nat->Tz
 |3=> .im .i64
 |4=> .bo
 |5=> .im .u8
 |9=> .st
 |21=> .im .i32
 |22=> .sl 57 3 40
 |25=> .pt
 |27=> .gr [.nilptr] [(0,25)]
 |28=> .sl 86 2 32
 |32=> .sl 88 3 40
 |35=> .sl 154 3 32
 |37=> .gr [(.slice true [] [])] [(0,35)]
 |38=> .sl 68 3 56
 |40=> .gr [(.slice true [] [])] [(0,38)]
 |42=> .gr [(.bool false),(.int .i64 0),(.str []),(.slice true [] []),(.slice true [] [])] [(0,4),(1,3),(2,9),(3,37),(4,40)]
 |43=> .im .i64
 |46=> .sl 191 3 32
 |47=> .sl 83 3 56
 |49=> .gr [(.bool false),(.int .i64 0),(.str []),(.slice true [] []),(.slice true [] [])] [(0,4),(1,3),(2,9),(3,46),(4,47)]
 |57=> .gr [(.int .u8 0),(.str []),(.str [])] [(0,5),(1,9),(2,9)]
 |59=> .gr [(.bool false),(.int .i64 0),(.str []),(.slice true [] []),(.slice true [] []),.nilptr,(.int .i64 0)] [(0,42),(5,27),(6,3)]
 |66=> .sl 232 2 24
 |68=> .gr [(.str []),(.str []),(.slice true [] [])] [(0,9),(1,9),(2,66)]
 |81=> .sl 162 2 24
 |83=> .gr [(.str []),(.str []),(.slice true [] [])] [(0,9),(1,9),(2,81)]
 |86=> .gr [(.str []),(.str [])] [(0,9),(1,9)]
 |87=> .sl 5 1 1
 |88=> .gr [(.int .u8 0),(.str []),(.str [])] [(0,5),(1,9),(2,9)]
 |102=> .gr [(.int .u8 0),(.str []),(.int .i64 0)] [(0,5),(1,9),(2,3)]
 |116=> .sl 3 1 8
 |118=> .gr [(.int .u8 0),(.str []),(.str []),(.str []),(.int .i64 0),(.int .i64 0),(.bool false),(.slice true [] []),(.str []),(.slice true [] []),(.str [])] [(0,5),(1,9),(2,9),(3,9),(4,3),(5,3),(6,4),(7,116),(8,9),(9,66),(10,9)]
 |123=> .gr [(.str []),(.bool false),(.str []),(.slice true [] []),(.bool false),(.int .i64 0),(.str []),(.slice true [] []),(.slice true [] [])] [(0,9),(1,4),(2,9),(3,32),(4,42)]
 |137=> .gr [(.int .u8 0),(.str []),(.int .i64 0)] [(0,5),(1,9),(2,3)]
 |138=> .im .u64
 |142=> .pt
 |144=> .gr [.nilptr,(.slice true [] [])] [(0,142),(1,87)]
 |150=> .fu
 |152=> .gr [(.int .i64 0),(.bool false)] [(0,3),(1,4)]
 |154=> .gr [(.str []),(.int .i64 0),(.bool false)] [(0,9),(1,152)]
 |160=> .sl 9 1 16
 |162=> .gr [(.str []),(.int .u8 0)] [(0,9),(1,5)]
 |170=> .gr [(.str []),(.str []),.nilptr,.nilptr,(.int .i64 0),(.int .i64 0),(.int .i64 0)] [(0,9),(1,9),(2,25),(3,25),(4,3),(5,3),(6,3)]
 |172=> .gr [(.str []),(.int .i64 0),(.int .i64 0)] [(0,9),(1,3),(2,43)]
 |183=> .gr [(.str []),(.int .i64 0),(.int .i64 0)] [(0,9),(1,3),(2,3)]
 |186=> .im .u64
 |189=> .gr [(.int .i64 0),(.bool false)] [(0,3),(1,4)]
 |191=> .gr [(.str []),(.int .i64 0),(.bool false)] [(0,9),(1,189)]
 |193=> .sl 102 3 32
 |215=> .gr [(.str []),(.str [])] [(0,9),(1,9)]
 |218=> .sl 328 3 16
 |220=> .gr [(.int .i64 0),(.bool false),(.int .i64 0),(.slice true [] [])] [(0,3),(1,4),(2,3),(3,218)]
 |222=> .gr [(.int .u8 0),(.int .i64 0),(.int .i64 0),(.str []),(.slice true [] []),(.int .i64 0),(.bool false),(.int .i64 0),(.slice true [] []),(.bool false)] [(0,5),(1,43),(2,3),(3,9),(4,160),(5,220),(9,4)]
 |224=> .sl 4 1 1
 |225=> .sl 160 1 24
 |227=> .gr [(.slice true [] []),(.slice true [] []),(.slice true [] []),(.slice true [] []),(.slice true [] [])] [(0,160),(1,160),(2,224),(3,160),(4,225)]
 |232=> .gr [(.str []),(.int .u8 0)] [(0,9),(1,5)]
 |234=> .fu
 |236=> .fu
 |244=> .im .u32
 |262=> .fu
 |269=> .fu
 |282=> .ar [(.str []),(.str []),(.str []),(.str []),(.str []),(.str []),(.str []),(.str []),(.str []),(.str []),(.str []),(.str []),(.str []),(.str []),(.str []),(.str []),(.str []),(.str []),(.str []),(.str []),(.str []),(.str []),(.str []),(.str []),(.str []),(.str []),(.str []),(.str []),(.str []),(.str []),(.str []),(.str []),(.str []),(.str []),(.str []),(.str []),(.str []),(.str [])] 19 215
 |287=> .pt
 |289=> .gr [(.bool false),(.int .i64 0),(.str []),(.slice true [] []),(.slice true [] []),(.int .u8 0),(.str []),(.str []),(.str []),(.int .i64 0),(.int .i64 0),(.bool false),(.slice true [] []),(.str []),(.slice true [] []),(.str []),(.slice true [] []),(.slice true [] []),(.slice true [] []),(.slice true [] []),(.slice true [] []),(.str []),(.bool false),(.str []),(.slice true [] []),(.bool false),(.int .i64 0),(.str []),(.slice true [] []),(.slice true [] [])] [(0,42),(5,118),(16,227),(21,123)]
 |305=> .fu
 |307=> .sl 35 1 24
 |328=> .gr [(.int .i64 0),(.bool false),(.bool false)] [(0,3),(1,4),(2,4)]
 |363=> .fu
 |367=> .fu
 |370=> .im .i64
 |378=> .sl 38 1 24
 |380=> .ar [(.slice true [] []),(.slice true [] [])] 2 66
 |409=> .fu
 |411=> .sl 224 1 24
 |413=> .sl 225 1 24
 |433=> .pt
 |437=> .fu
 |_=> .un
def Tz.z:Tz->List D
 | .bo=>[.bool false]
 | .st=>[.str []]
 | .pt=>[.nilptr]
 | .fu=>[.nilFunc]
 | .nf=>[.nilIface]
 | .mp=>[.nilMap]
 | .un=>[]
 | .im k=>[.int k 0]
 | .sl _ _ _=>[.slice true [] []]
 | .gr zs _=>zs
 | .ar zs _ _=>zs
def Tz.k:Tz->Option Nat
 | .gr zs _=>some zs.length
 | .ar zs _ _=>some zs.length
 |_=>none
def Tz.d(t:Tz):D:=match t with
 | .gr zs _=> .agg zs
 | .ar zs _ _=> .agg zs
 |t=>t.z.headD .junk
def Tz.n(t:Tz):Nat:=t.z.length
def tA:Operand->GW
 | .tmp t=> .t t
 | .const v=> .c ((ofVal v).getD .junk)
 | .func f=> .c (.fn f [])
 | .global _=> .t 0
def lk{α:Type}(d:α)(k:Nat):List (Nat×α)->α
 |[]=>d
 |(j,x)::r=>if j=k then x else lk d k r
def fAt(t:Tz)(f:Nat):Nat×Nat:=match t with
 | .gr _ fs=>fs.getD f (0,0)
 |_=>(0,0)
def RK:List (Nat×Nat)->List (Nat×Nat)
 |[]=>[]
 |(o,t)::r=>(match zT t with
  | .im _=>[(0,o)]
  | .bo=>[(1,o)]
  | .st=>[(2,o)]
  | .gr _ fs=>fs.map λp=>((match zT p.2 with| .im _=>0| .bo=>1|_=>2),o+p.1)
  |_=>[])++RK r
def tE(ne:Bool)(t:Tz)(a b:GW):DOp:=match t with
 | .bo=> .beq ne a b
 | .im _=> .bin (if ne=true then .neq else .eql) a b
 | .st=> .bin (if ne=true then .neq else .eql) a b
 | .gr _ fs=> .seq ne (RK fs) a b
 | .sl _ _ _=> .nileq ne 0 a b
 | .pt=> .nileq ne 1 a b
 | .fu=> .nileq ne 3 a b
 | .nf=> .nileq ne 2 a b
 |_=> .stop
def tB(o:BinOp)(t:Tz)(a b:GW):DOp:=match o with
 | .eql=>tE false t a b
 | .neq=>tE true t a b
 |o=> .bin o a b
def tC(s t:Tz)(x:GW):DOp:=match s,t with
 | .im _,.im k=> .conv k x
 | .st,.st=> .s2s x
 | .st,.sl _ _ _=> .s2b x
 | .sl _ _ _,.st=> .b2s x
 |_,_=> .stop
def tX(t:Tz)(x i:GW):DOp:=match t with
 | .sl _ s _=> .iaddr s x i
 | .ar _ n e=> .iadda n (zT e).n x i
 |_=> .stop
def tI(t:Tz)(x i:GW):DOp:=match t with
 | .st=> .idxs x i
 | .ar _ n e=>(match (zT e).k with
  |none=> .idxa n x i
  |some s=> .idxm n s x i)
 |_=> .stop
def tS(t:Tz)(x:GW)(l h:Option GW):DOp:=match t with
 | .st=> .cuts x l h
 | .sl _ s _=> .cutl s x l h
 |_=> .stop
def tP(t:Tz)(l:List (Nat×Operand)):DOp:=match t with
 | .gr zs fs=> .build zs (l.map λp=>((fs.getD p.1 (0,0)).1,(zT (fs.getD p.1 (0,0)).2).n,tA p.2))
 | .ar zs _ e=> .build zs (l.map λp=>(p.1*(zT e).n,(zT e).n,tA p.2))
 |_=> .stop
def tG(t:Tz)(l:List (Nat×Operand)):DOp:=match t with
 | .sl e s _=> .bslice e s (l.map λp=>tA p.2)
 |_=> .stop
def tM(t:Tz)(n c:GW):DOp:=match t with
 | .sl e s b=> .mksl e s b (zT e).d n c
 |_=> .stop
def tL(c:Callee)(xs:List Operand)(u:List Nat):DOp:=match c with
 | .value f=> .call (tA f) (xs.map tA)
 | .builtin .len=>(match xs,u with
  |[x],[t]=>(match zT t with| .st=> .len true (tA x)|_=> .len false (tA x))
  |_,_=> .stop)
 | .builtin .append=>(match xs,u with
  |[x,y],[t,_]=>(match zT t with| .sl e s b=> .app e s b (tA x) (tA y)|_=> .stop)
  |_,_=> .stop)
 | .builtin .max=>(match xs with|[x,y]=> .mxm true (tA x) (tA y)|_=> .stop)
 | .builtin .min=>(match xs with|[x,y]=> .mxm false (tA x) (tA y)|_=> .stop)
 |_=> .stop
def tO:Op->DOp
 | .move x=> .mv (tA x)
 | .assign x=> .mv (tA x)
 | .pick c a b=> .pick (tA c) (tA a) (tA b)
 | .alloc t=> .alloc (zT t).z
 | .box _ x=> .box (tA x)
 | .build t l=>tP (zT t) l.toList
 | .buildSlice t _ l=>tG (zT t) l.toList
 | .load t x=> .load (zT t).k (tA x)
 | .store t x v=> .store (zT t).n (tA x) (tA v)
 | .nilCheck x=> .nilchk (tA x)
 | .binOp o t x y _=>tB o (zT t) (tA x) (tA y)
 | .unOp o _ x=> .un o (tA x)
 | .convert s t x=>tC (zT s) (zT t) (tA x)
 | .fieldAddr t x f=> .faddr (fAt (zT t) f).1 (tA x)
 | .field t x f=> .field (zT (fAt (zT t) f).2).k (fAt (zT t) f).1 (tA x)
 | .indexAddr t x i=>tX (zT t) (tA x) (tA i)
 | .index t x i=>tI (zT t) (tA x) (tA i)
 | .slice t x l h _=>tS (zT t) (tA x) (l.map tA) (h.map tA)
 | .makeInterface t x=> .mkif t (tA x)
 | .typeAssert x _ t ok=> .tass t ok (zT t).d (tA x)
 | .extract x i=> .ext i (tA x)
 | .makeSlice t n c=>tM (zT t) (tA n) (tA c)
 | .range _ x=> .range (tA x)
 | .next x _=> .next (tA x)
 | .makeFunc (.func f) _ l=> .mkfn f (l.toList.map tA)
 | .call c=>tL c.callee c.args.toList c.argTypes.toList
 |_=> .stop
def tR(o:Oper):DOper:=⟨o.dst,tO o.op,[],o.guard⟩
def qX:Code->Nat
 | .region i _ _=>i
 | .seq a _=>qX a
 | .block _ a=>qX a
 | .loop a=>qX a
 |_=>0
def cS(k:Nat):Code->Option Code
 | .seq a b=>(cS k a).or (cS k b)
 | .cond _ a b=>(cS k a).or (cS k b)
 | .block _ a=>cS k a
 | .loop a=>if qX a=k then some a else cS k a
 |_=>none
def tQ(ps:List (Nat×List (Nat×Nat)))(ls:List (Nat×DC)):Code->DC
 | .skip=> .skip
 | .ret=> .ret
 | .exit i=> .exit i
 | .region i ops false=> .row (ops.toList.map tR)
 | .region i ops true=> .drawn (ops.toList.map tR) (lk [] i ps)
 | .seq a b=> .seq (tQ ps ls a) (tQ ps ls b)
 | .cond c a b=> .cond (tA c) (tQ ps ls a) (tQ ps ls b)
 | .block i c=> .block i (tQ ps ls c)
 | .loop c=> .loop (lk .skip (qX c) ls)
 |_=> .skip
def tAi(k i):tA (.const (.int k i))= .c (.int k i):=rfl
def tAb(b):tA (.const (.bool b))= .c (.bool b):=rfl
def tAs(s):tA (.const (.string s))= .c (.str s.data.toList):=rfl
def tAl:tA (.const (.slice none 0 0))= .c (.slice true [] []):=rfl
def tAp:tA (.const (.pointer none))= .c .nilptr:=rfl
def tAn:tA (.const .nilIface)= .c .nilIface:=rfl
def tAu:tA (.const .nilFunc)= .c .nilFunc:=rfl
def tAg(l):tA (.const (.agg l))= .c ((ofVal (.agg l)).getD .junk):=rfl
def tAt(t):tA (.tmp t)= .t t:=rfl
def tAf(f):tA (.func f)= .c (.fn f []):=rfl
def bAt(f:Func):Code:=f.body.getD .skip
abbrev y0(f:Func)(ps:List (Nat×List (Nat×Nat)))(ls:List (Nat×DC)){c:DC}(_:tQ ps ls (bAt f)=c:=by exact Eq.trans (by conv=>lhs;whnf) (by simp only[tQ,tR,tO,tAt,tAi,tAb,tAs,tAf,tAl,tAp,tAn,tAu,tAg,zT,Tz.k,Tz.z,Tz.n,Tz.d,tL,tP,tB,tE,tX,tS,tI,tG,tC,tM,fAt,RK,lk,ofVal,List.getD_cons_zero,List.getD_cons_succ,List.map_cons,List.map_nil,List.length_cons,List.length_nil,List.headD_cons,List.cons_append,List.nil_append,Option.map_some,Option.map_none,Option.getD_some,Bool.false_eq_true,reduceIte,Nat.reduceAdd,Nat.reduceMul,Nat.reduceEqDiff]<;>rfl)):DC:=c
abbrev y1(f:Func)(k:Nat)(ps:List (Nat×List (Nat×Nat)))(ls:List (Nat×DC)){c:DC}(_:tQ ps ls ((cS k (bAt f)).getD .skip)=c:=by exact Eq.trans (by conv=>lhs;whnf) (by simp only[tQ,tR,tO,tAt,tAi,tAb,tAs,tAf,tAl,tAp,tAn,tAu,tAg,zT,Tz.k,Tz.z,Tz.n,Tz.d,tL,tP,tB,tE,tX,tS,tI,tG,tC,tM,fAt,RK,lk,ofVal,List.getD_cons_zero,List.getD_cons_succ,List.map_cons,List.map_nil,List.length_cons,List.length_nil,List.headD_cons,List.cons_append,List.nil_append,Option.map_some,Option.map_none,Option.getD_some,Bool.false_eq_true,reduceIte,Nat.reduceAdd,Nat.reduceMul,Nat.reduceEqDiff]<;>rfl)):DC:=c
end Go.Vd
namespace Go.Vd
open Go.RowKit
structure rW (p:Id->Id):Prop where
 inv:∀i,p (p i)=i
 nil:p []=[]
def rW.inj{p:Id->Id}(h:rW p){i j:Id}(e:p i=p j):i=j:=by rw[←h.inv i,e,h.inv]
def rW.nn{p:Id->Id}(h:rW p){i:Id}(e:p i≠[]):i≠[]:=λhi=>e (by rw[hi,h.nil])
section
variable{P:Program}{S:GR}{f:FuncId}{N:Nat}{dc:DC}{rs:List RV}
end
section
variable{P:Program}{f:FuncId}
end
def Ez(e:Nat):HA where
 rd:=λ_ _=>[]
 ex:=λds _ fr=>match ds with
  |[.slice true _ [],.int .i64 k]=>if 0<k∧k<=1000000 then some (.slice false (0::fr) [],[(0::fr,0,[.tok (e+1)])])else none
  |_=>none
def Pr {P:Program} {f:FuncId} {e sz:Nat} (ja:∃fn,P.funcs[f]?=some fn∧fn.body.isSome=true∧(fn.name== "runtime.NumGoroutine")=false) (pa:0<sz)
  (hi:∃ti z,P.info? e=some ti∧ti.size=sz∧ti.zero=some z∧z.cells.size=sz)
  (b:∀(w:World)(k:Nat),0<k->k<=1000000->Calls P f #[.slice none 0 0,.int .i64 (k:Int)] w λev w'=>∃c cs,c<=maxLen∧cs.size=c*sz∧ev= .returned (.slice (some ⟨w.heap.size,0,none⟩) 0 c)∧w'=w.drew.alloc (.cells cs e)):(Ez e).ok P f:=by
 refine⟨ja,λds m m' fr _=>rfl,?_⟩;intro B w0 w m g fr ds vs r u ia da hl fa p;simp only[Ez]at p;split at p
 ·rename_i t k;split at p
  ·rename_i hc;obtain⟨ma,hk⟩:=hc;simp only[Qi,Qq]at p;obtain⟨rfl,rfl⟩:=p
   match vs,hl with
   |[v0,v1],_=>
    have y:=fa 0 _ v0 rfl rfl;have la:=(fa 1 _ v1 rfl rfl).int_inv;subst la;have e0:v0= .slice none 0 0:=by
     rcases y.slice_inv with ⟨_,_,e⟩|⟨h,_⟩
     ·exact e
     ·cases h
    subst e0;have ea:((k.toNat:Nat):Int)=k:=Int.toNat_of_nonneg O;have x:=b w k.toNat O O;rw[ea]at x;refine x.mono ?_;rintro ev w' ⟨c,cs,lb,sa,rfl,rfl⟩;have qa:=da (0::fr) (QK 0 fr);have a:=(ia.drew).newTok qa (e:=e) (n:=0) (c:=c) (sz:=sz) (cur:=cs) pa hi (QY _) lb sa;have ga:=(Hk.drew w g).trans (Hk.newTok (w:=w.drew) (t:=0::fr) (n:=0) (c:=c) (sz:=sz) (Obj.cells cs e) ia.drew.gz qa.2.2 rfl);refine⟨_,_,rfl,a,ga,?_,λi o q=>C5 o (λh=>q ((QK 0 fr).trans h)) _ _ _ _ _⟩;exact aH (sz:=sz) (xs:=[]) (vs:=[]) (cur:=cs) (T:=e) (fz:=(0,0)) (heap_alloc_new w.drew _) rfl (QY _) (λd s=>XP) (A1.nil _ _) (λj v hv=>by simp at hv) U (λ_=>Xl) (λd s=>XP)
  ·cases p
 ·cases p
def FP:List D->Option (List D)
 |[]=>some []
 | .slice _ _ xs::r=>(FP r).map (xs++·)
 |_=>none
def VG:D->Bool
 | .str _=>true
 |_=>false
def oO:D->List UInt8
 | .str s=>s
 |_=>[]
def aIB{P:Program}{B:Nat}{w0 w w':World}{m:GV}{g:Gh}{e n:Nat}{v:Value}{xs:List D}(hi:Hc P B w0 m w g)(i:Below w.heap.size w w')(p:xs.all VG=true)(c:n=xs.length)
  (ho:w'.ownsRow w.heap.size e 1 v n (xs.map λd=>Value.string ⟨(oO d).toArray⟩)) (y:v≠ .slice none 0 0):Rep w' (g.over w w') (.slice false [] xs) v:=by
 obtain⟨u,q⟩:=ho;rcases q with ⟨q,_⟩|⟨b,cap,cur,rfl,f,hh,o,lb,pa,na⟩
 ·exact absurd q y
 ·have z:∀d∈xs,d.cells.length=1∧d.calm=true:=by
   intro d t;have:=Qv.1 p d t;unfold VG at this;split at this
   ·exact Qg
   ·cases this
  have k:A1 w' (g.over w w') (flat xs) (xs.map λd=>Value.string ⟨(oO d).toArray⟩):=by
   clear c u na y;induction xs with
   |nil=>exact A1.nil _ _
   |cons x r ih=>
    simp only[ZO,QP]at p;have a:=ih p.2 (λd t=>z d (Q2 _ t))
    match x,p.1 with
    | .str s,_=>exact A1.append (A1.one (.str s) rfl) a
  refine aH (sz:=1) (vs:=xs.map λd=>Value.string ⟨(oO d).toArray⟩) hh c o (λd t=>(z d t).1) k (λj v y=>?_) ?_ (λh=>absurd rfl h) (λd t=>(z d t).2)
  ·grind
  ·grind [Gh.over]
mutual
def D.off(i:Id):D->Bool
 | .ptr j _=>j !=i
 | .row j _=>j !=i
 | .agg cs=>aU i cs
 | .tup cs=>aU i cs
 | .fn _ cs=>aU i cs
 |_=>true
def aU(i:Id):List D->Bool
 |[]=>true
 |d::r=>D.off i d&&aU i r
end
def IC{i:Id}:∀{l:List D},aU i l=true↔∀d∈l,d.off i=true
 |[]=>by simp[aU]
 |d::r=>by simp only[aU,QP,IC,Zq,forall_eq_or_imp]
def Vs{i:Id}{w:World}{g:Gh}{ds:List D}{vs:List Value}(hl:vs.length=ds.length)(h:∀(j:Nat) d v,ds[j]?=some d->vs[j]?=some v->d.off i=true):aU i ds=true:=by
 rw[IC];intro d z;obtain⟨j,e,rfl⟩:=Q8 z;exact h j _ vs[j] (Qj e) (Qj O)
def Rep.off{w:World}{g:Gh}{i:Id}(hi:g.dl i=none){d:D}{v:Value}(h:Rep w g d v):d.off i=true:=by
 induction h with
 |ptr j o b u=>
  simp only[D.off,bne_iff_ne,ne_eq];rintro rfl;rw[hi]at u;cases u
 |row j n c b y u=>
  simp only[D.off,bne_iff_ne,ne_eq];rintro rfl;rw[hi]at u;cases u
 |agg ds vs u q m ih=>simp only[D.off];exact Vs (w:=w) (g:=g) u ih
 |tup ds vs u q ih=>simp only[D.off];exact Vs (w:=w) (g:=g) u ih
 |fn f ds vs u q ih=>simp only[D.off];exact Vs (w:=w) (g:=g) u ih
 |_=>rfl
def Rep.drop{w:World}{g g':Gh}{i:Id}(ua:∀j b,j≠i->g.dl j=some b->g'.dl j=some b)(hG:∀b,g.G b<=g'.G b)(cb:∀j x,g.tb j=some x->g'.tb j=some x){d:D}{v:Value}(h:Rep w g d v)(r:d.off i=true):Rep w g' d v:=by
 have calm:∀{d:D} {v:Value},Rep w g d v->d.calm=true->Rep w g' d v:=λh p=>h.calm_to p (λ_ _=>rfl) hG
 have cf:∀{xs:List D},(∀d∈xs,d.calm=true)->∀d∈flat xs,d.calm=true:=λh9 d z=>by
  have:=Gn h9 d z
  first|exact this|(cases d<;>simp_all [D.calm,D.calm1])
 induction h with
 |junk v=>exact .junk v
 |bool b=>exact .bool b
 |int k n=>exact .int k n
 |str s=>exact .str s
 |nils t=>exact .nils _
 |slice t xs a n c sz vv u q m h4 e h6 h7 h8 h9 ih=>
  refine .slice t xs a n c sz vv u q m h4 e (λj d z=>calm (h6 j d z) (cf h9 d (Qr z))) (λh=>QO (h7 h) (hG _)) (λht=>?_) h9;obtain⟨q1,q2,q3⟩:=h8 ht;exact⟨q1,q2,cb _ _ q3⟩
 |ptr j o b u=>exact .ptr j o b (ua j b (by simpa[D.off]using r) u)
 |row j n c b y u=>exact .row j n c b y (ua j b (by simpa[D.off]using r) u)
 |eptr ds a vv u q m h4 e=>exact .eptr ds a vv u q (λj d z=>calm (m j d z) (e d (Qr z))) (λh=>QO (h4 h) (hG _)) e
 |nilp=>exact .nilp
 |agg ds vs u q m ih=>
  simp only[D.off,IC]at r;exact .agg _ vs u q (λj d v z hv=>ih j d v z hv (r d (Qr z)))
 |tup ds vs u q ih=>
  simp only[D.off,IC]at r;exact .tup _ vs u (λj d v z hv=>ih j d v z hv (r d (Qr z)))
 |iface t d v u q ih=>exact .iface t d v u (calm q u)
 |nili=>exact .nili
 |fn f ds vs u q ih=>
  simp only[D.off,IC]at r;exact .fn f _ vs u (λj d v z hv=>ih j d v z hv (r d (Qr z)))
 |nilf=>exact .nilf
 |nilm=>exact .nilm
 |itp j b u=>exact .itp j b (cb _ _ u)
def aFf{i:Id}{d:D}(h:d.calm1=true):d.off i=true:=by
 cases d with
 |fn f cs=>
  have:cs=[]:=by simpa[D.calm1]using h
  subst this;rfl
 |_=>first|rfl|(simp[D.calm1]at h;done)
def nW:∀{u:Ha} {m:GV} {i:Id} {o:Nat} {d:D},(∀p∈u,∀x∈p.2.2,x.calm1=true)->Ha.app m u i o=some d->d.calm1=true∨m i o=some d
 |[],m,i,o,d,_,h=> .inr h
 |(j,k,ds)::u,m,i,o,d,hu,h=>by
  rcases nW (u:=u) (λp z=>hu p (Q2 _ z)) h with h1|h1
  ·exact .inl h1
  ·by_cases g:i=j∧k<=o∧o<k+ds.length
   ·left;have:m.put j k ds i o=ds[o-k]?:=by unfold GV.put;rw[if_pos g]
    rw[this]at h1;exact hu _ (QZ ..) d (Qr h1)
   ·grind [GV.put]
def nV:∀{u:Ha} {m:GV} {i:Id} {o:Nat},(∀p∈u,p.1≠i)->Ha.app m u i o=m i o
 |[],m,i,o,_=>rfl
 |(j,k,ds)::u,m,i,o,hu=>by
  have y:=nV (u:=u) (m:=m.put j k ds) (i:=i) (o:=o) (λp z=>hu p (Q2 _ z));have q:i≠j:=λe=>hu _ (QZ ..) e.symm
  exact y.trans (aB q)
def qT:∀{xs:List D},(∀x∈xs,x.cells=[x])->flat xs=xs
 |[],_=>rfl
 |x::r,h=>by
  rw[flat,h x (QZ ..),qT λy d=>h y (Q2 _ d)];rfl
section
variable{P:Program}{B:Nat}{w0 w:World}{m:GV}{g:Gh}{S:GR}{f:FuncId}{N:Nat}{dc:DC}{rs:List RV}
def Gh.settle(g:Gh)(i:Id)(b n:Nat):Gh:={g with dl:=λj=>if j=i then none else g.dl j,G:=λr=>if r=b then n else g.G r}
theorem aIK (hS : GR.ok P S) (hf : Fn P f N dc rs) {q : HA} (z : ∀ ds m m' fr, (∀ l ∈ q.rd ds m, m l.1 l.2 = m' l.1 l.2) → q.ex ds m fr = q.ex ds m' fr)
  (hq : ∀ ds m fr r u, q.ex ds m fr = some (r, u) → (∀ i o, fr <:+ i → m i o = none) → ds.length ≤ N ∧ (∀ p ∈ u, ¬ fr <:+ p.1 ∧ ∀ x ∈ p.2.2, x.calm1 = true) ∧ ∃ xs, r = .slice false [] xs ∧ (∀ x ∈ xs, x.calm = true ∧ x.cells = [x]) ∧
   dc.wp S fr (DV rs fun d m' => ∃ i, d = .row i xs.length ∧ fr <:+ i ∧ (∀ (j : Nat) x, xs[j]? = some x → m' i j = some x) ∧ ∀ i o x, Ha.app m u i o = some x → m' i o = some x) ⟨Bz ds, m, 0⟩) : q.ok P f := by
 obtain ⟨fn, ea, h1, h2, h3, h4, h5, h6⟩ := hf.is
 refine ⟨⟨fn, h1, by rw [h2]; rfl, h3⟩, z, ?_⟩
 intro B w0 w m g fr ds vs r u hi da hl fa ba
 have na : ∀ k i, (k :: fr) <:+ i → B2 m g i := fun k i h => da i ((QK k fr).trans h)
 obtain ⟨hN, hu, xs, rfl, fb, bb⟩ := hq ds m fr r u ba (fun i o h => (da i h).1 o)
 have ka := Gp (ns := fr) hS hf hN hi na hl fa bb
 refine ka.mono ?_
 rintro e w' ⟨v, d, m', g', rfl, ia, ga, qa, ab, i, rfl, aa, ha, ta⟩
 obtain ⟨b, cap, rfl, ca, hb⟩ := ab.row_inv
 obtain ⟨mb, kb, cur, T, a, wa⟩ := ia.obj i b hb
 have ua : g.dl i = none := (da i aa).2.1
 have t : ∀ b', g'.G b' ≤ (g'.settle i b xs.length).G b' := by
  grind [Gh.settle]
 have jb : ∀ {d : D} {v : Value}, Rep w' g' d v → d.off i = true → Rep w' (g'.settle i b xs.length) d v := fun h ho =>
  h.drop (i := i) (fun j b' hj e => by simp only [Gh.settle]; rw [if_neg hj]; exact e) t (fun _ _ e => e) ho
 have base := ia.less ta
 have y : ∀ o, Ha.app m u i o = none := fun o => by
  rw [nV (fun p hp e => (hu p hp).1 (e ▸ aa))]; exact (da i aa).1 o
 have ib : ∀ j o d, Ha.app m u j o = some d → d.off i = true := by
  intro j o d hd
  rcases nW (fun p hp => (hu p hp).2) hd with h | h
  ·exact aFf h
  ·cases hdl : g.dl j with
   | none =>
    have hk := hi.kind j o d h hdl
    cases d <;> first | rfl | cases hk
   | some b' =>
    obtain ⟨_, _, eb, _, _, hr⟩ := hi.obj j b' hdl
    obtain ⟨v', _, _, lb⟩ := hr o d h
    exact lb.off ua
 have gb : Hc P B w0 (Ha.app m u) w' (g'.settle i b xs.length) := by
  refine ⟨ia.below, ia.size, fun b' va => ?_, fun b' va => ?_, fun j b' hj => ?_, fun j j' b' e1 e2 => ?_, fun j o d hm hn => ?_, fun j e hm => ?_, base.tinj, base.itr.to (fun _ _ _ e => e) fun j b1 s p _ _ _ e1 e2 e3 => ?_⟩
  rotate_right
  ·have db : b1 ≠ b := fun e' => e3 i (e' ▸ hb)
   refine ⟨rfl, rfl, by simp only [Gh.settle]; rw [if_neg db]; exact e2, fun i' h' => ?_⟩
   simp only [Gh.settle] at h'
   split at h'
   ·cases h'
   ·exact e3 i' h'
  ·simp only [Gh.settle]
   have : b < w'.heap.size := (QA.1 a).1
   rw [if_neg O]; exact ia.gz b' va
  ·simp only [Gh.settle]; rw [if_neg O]; exact ia.old b' va
  ·simp only [Gh.settle] at hj
   split at hj
   ·cases hj
   ·rename_i la
    obtain ⟨p, q, eb, T', hh, r⟩ := base.obj j b' hj
    have db : b' ≠ b := fun e => la (ia.inj j i b (e ▸ hj) hb)
    refine ⟨p, by simp only [Gh.settle]; rw [if_neg db]; exact q, eb, T', hh, fun o d hm => ?_⟩
    obtain ⟨v', r1, r2, r3⟩ := r o d hm
    exact ⟨v', r1, r2, jb r3 (ib j o d hm)⟩
  ·simp only [Gh.settle] at e1 e2
   split at e1
   ·cases e1
   ·split at e2
    ·cases e2
    ·exact ia.inj j j' b' e1 e2
  ·by_cases cb : j = i
   ·subst cb; rw [y o] at hm; cases hm
   ·simp only [Gh.settle, if_neg cb] at hn
    exact base.kind j o d hm hn
  ·obtain ⟨b1, n, c, sz, ja, t1, t2, t3, t4, t5, t6, t7, t8, t9, za⟩ := base.tok j e hm
   have db : b1 ≠ b := fun e' => za i (e' ▸ hb)
   refine ⟨b1, n, c, sz, ja, t1, t2, t3, t4, t5, t6, t7, t8, by simp only [Gh.settle]; rw [if_neg db]; exact t9, fun i' h' => ?_⟩
   simp only [Gh.settle] at h'
   split at h'
   ·cases h'
   ·exact za i' h'
 have ya : ∀ (j : Nat), j < xs.length → ∃ v, cur[j]? = some v ∧ v.oneCell' = true ∧ ∃ x, xs[j]? = some x ∧ Rep w' g' x v := by
  intro j hj
  obtain ⟨v', r1, r2, r3⟩ := wa j xs[j] (ha j _ (Qj hj))
  exact ⟨v', r1, r2, _, Qj hj, r3⟩
 have pa : xs.length ≤ cur.size := by
  rcases Zz xs.length with h | h
  ·omega
  ·obtain ⟨v', r1, _⟩ := ya (xs.length - 1) O
   have := (QA.1 r1).1
   omega
 have ma : ∀ x ∈ xs, x.calm = true := fun x hx => (fb x hx).1
 have ra : flat xs = xs := qT fun x hx => (fb x hx).2
 have sa : A1 w' (g'.settle i b xs.length) (flat xs) (cur.toList.take xs.length) := by
  rw [ra]
  refine ⟨XI, fun v hv => ?_, fun j x v hx hv => ?_⟩
  ·obtain ⟨j, hj, rfl⟩ := Q8 hv
   have xa : j < xs.length := Za hj (Zj _ _)
   obtain ⟨v', r1, r2, _⟩ := ya j xa
   have : (cur.toList.take xs.length)[j]? = some v' := by rw [QM xa]; simpa using r1
   rw [Qj hj] at this
   rw [QF this]; exact r2
  ·have xa : j < xs.length := (Qt.1 hx).1
   obtain ⟨v', r1, r2, x', oa, r3⟩ := ya j xa
   rw [hx] at oa; obtain rfl := QF oa
   have : (cur.toList.take xs.length)[j]? = some v' := by rw [QM xa]; simpa using r1
   rw [hv] at this; obtain rfl := QF this
   exact r3.calm_to (ma x (Qr hx)) (fun _ _ => rfl) t
 refine ⟨_, g'.settle i b xs.length, rfl, gb, ⟨ga.cell, fun b' => QO (ga.G b') (t b'), fun j b' hj => ?_, ga.G0, ga.tb, ga.size, fun j b' hj => by (simp only [Gh.settle] at hj; split at hj; (· cases hj); exact ga.dln j b' hj), ga.tbn, ga.unt⟩, ?_, fun j hf hn => ?_⟩
 ·simp only [Gh.settle]
  rw [if_neg (fun e => by rw [e, ua] at hj; cases hj)]; exact ga.dl j b' hj
 ·refine aH (sz := 1) (cur := cur) (vs := cur.toList.take xs.length) a rfl ca (fun d hd => by rw [(fb d hd).2]; rfl) sa (fun j v hv => ?_) (by simp [Gh.settle]) (fun h => absurd rfl h) ma
  have hj : j < xs.length := Za (Qt.1 hv).1 (Zj _ _)
  rw [QM hj] at hv
  simpa using hv
 ·obtain ⟨k1, k2, k3⟩ := qa j hf hn
  refine ⟨fun o => ?_, ?_, k3⟩
  ·cases hx : Ha.app m u j o with
   | none => rfl
   | some x => exact absurd (k1 o) (by rw [ta j o x hx]; simp)
  ·simp only [Gh.settle]
   split
   ·rfl
   ·exact k2
end
end Go.Vd
namespace Go.Vd
open Go.Proofs Go.RowKit
def aNp:=y0 f387 [] []
def Pt:=y1 f367 5 [] []
def aNt:=y0 f367 [] [(5,Pt)]
def Pu:=y1 f335 3 [] []
def aNB:=y0 f335 [] [(3,Pu)]
def aN4:=y0 f270 [] []
def aOT:=y0 Tryz.f197 [] []
abbrev Kq(F:List D->Option D)(n:Nat):=(Ac F).ok Qo n
def AO{P:Program}:GR.ok P (λ_=>none):=λf q h=>Xd
def D5(c:Int):Bool:=decide (97<=c∧c<=122)||decide (65<=c∧c<=90)||decide (48<=c∧c<=57)||decide (c=45)||decide (c=46)||decide (c=95)||decide (192<=c∧c<=55295)
def aHd:List D->Option D
 |[.int .i32 c]=>some (.bool (D5 c))
 |_=>none
def aVb:Kq aHd 387:=by
 refine AB (S:=λ_=>none) AO (Al func387:Fn Qo 387 35 aNp [.t 2]) (λds r h=>?_) (λds r h=>?_)
 ·unfold aHd at h;split at h
  ·simp
  ·cases h
 ·unfold aHd at h;split at h
  ·rename_i c;simp only[Qi]at h;subst h;unfold aNp;simp only[↓GQ,GX,simprocAttr]
   repeat' (first|(refine aD (λh=>?_) (λh=>?_)<;>try (exfalso;omega))|(simp only[↓GQ,GT,simprocAttr, *]))
   all_goals (rw[D.bool.injEq,Bool.eq_iff_iff];simp[D5];try omega)
  ·cases h
theorem Hg{x:Int}(u:-9223372036854775808<=x)(q:x<9223372036854775808):IntKind.i64.wrap x=x:=IntWalk.i64_in _ ⟨u,O⟩
theorem wJ {j:Nat}(h:j<4611686018427387904):IntKind.i64.wrap ((j:Int)+1)=((j+1:Nat):Int):=Hg (by omega) (by omega)
theorem nJ {j:Nat}:(0:Int)<=(j:Int):=by omega
abbrev Bs:=List UInt8
def Hm(s:Bs)(i:Nat):Nat:=(s.getD i 0).toNat
def I0(s:Bs)(i:Nat):Hm s i<256:=UInt8.toNat_lt _
def CO(s:Bs)(i:Nat):Bool:=decide (i<s.length)&&decide (128<=Hm s i)&&decide (Hm s i<192)
def Az:List (FuncId×HA)->GR
 |[],_=>none
 |(k,q)::r,f=>if f=k then some q else Az r f
def A4{P:Program}{l:List (FuncId×HA)}(h:GR.ok P (Az l)):∃S:GR,GR.ok P S∧∀f q,Az l f=some q->S f=some q:=⟨_,h,λ_ _ e=>e⟩
def Ae{P:Program}:GR.ok P (Az []):=λf q h=>Xd
def Aa{P:Program}{k:FuncId}{q:HA}{r:List (FuncId×HA)}(h:q.ok P k)(j:GR.ok P (Az r)):GR.ok P (Az ((k,q)::r)):=λf g e=>by
 simp only[Az]at e;split at e
 ·simp_all
 ·exact j f g e
def DW(s:Bs)(i:Nat):Int×Nat:=
 let b:=Hm s i
 if b<128 then(b,1)
 else if 192<=b∧b<224∧CO s (i+1)=true∧128<=64*((b:Int)-192)+(Hm s (i+1)-128)then(64*((b:Int)-192)+(Hm s (i+1)-128),2)
 else if 224<=b∧b<240∧CO s (i+1)=true∧CO s (i+2)=true∧2048<=4096*((b:Int)-224)+64*(Hm s (i+1)-128)+(Hm s (i+2)-128)∧
   (4096*((b:Int)-224)+64*(Hm s (i+1)-128)+(Hm s (i+2)-128)<55296∨57343<4096*((b:Int)-224)+64*(Hm s (i+1)-128)+(Hm s (i+2)-128))then
  (4096*((b:Int)-224)+64*(Hm s (i+1)-128)+(Hm s (i+2)-128),3)
 else if 240<=b∧b<248∧CO s (i+1)=true∧CO s (i+2)=true∧CO s (i+3)=true∧65536<=262144*((b:Int)-240)+4096*(Hm s (i+1)-128)+64*(Hm s (i+2)-128)+(Hm s (i+3)-128)∧
   262144*((b:Int)-240)+4096*(Hm s (i+1)-128)+64*(Hm s (i+2)-128)+(Hm s (i+3)-128)<=1114111 then
  (262144*((b:Int)-240)+4096*(Hm s (i+1)-128)+64*(Hm s (i+2)-128)+(Hm s (i+3)-128),4)
 else(-1,1)
theorem D1{s:Bs}{i:Nat}:CO s i=true↔i<s.length∧128<=Hm s i∧Hm s i<192:=by simp[CO,and_assoc]
def Oj(s:Bs)(i:Nat):((ByteArray.mk s.toArray).get! i).toNat=Hm s i:=by
 have:(ByteArray.mk s.toArray).get! i=s.toArray[i]!:=rfl;rw[this];unfold Hm;by_cases h:i<s.length
 ·simp[h]
 ·simp[h];rfl
def aIm(s:Bs):(ByteArray.mk s.toArray).size=s.length:=X1
def aDM(s:Bs)(i:Nat)(hi:i<s.length):(Utf8.decode ⟨s.toArray⟩ i).2=(DW s i).2∧D5 ((Utf8.decode ⟨s.toArray⟩ i).1:Nat)=D5 (DW s i).1:=by
 have a:=I0 s i;have g:=I0 s (i+1);have b2:=I0 s (i+2);have w:=I0 s (i+3);have j:(decide (i+1<s.length)&&(Hm s (i+1) / 64==2))=CO s (i+1):=by
  grind [CO]
 have o:(decide (i+2<s.length)&&(Hm s (i+2) / 64==2))=CO s (i+2):=by
  grind [CO]
 have y:(decide (i+3<s.length)&&(Hm s (i+3) / 64==2))=CO s (i+3):=by
  grind [CO]
 have c1:=@D1 s (i+1);have c2:=@D1 s (i+2);have n:=@D1 s (i+3);unfold Utf8.decode DW;simp only[Oj,aIm,Zm,j,o,y];generalize CO s (i+1)=z at *;generalize CO s (i+2)=f at *;generalize CO s (i+3)=r at *;generalize Hm s i=q at *;generalize Hm s (i+1)=t at *;generalize Hm s (i+2)=m at *;generalize Hm s (i+3)=x at *;clear j o y;have na:D5 ((Utf8.runeError:Nat):Int)=D5 (-1):=Z
 have v:∀c:Nat,Utf8.valid (c:Int)=true↔(c<55296∨(57344<=c∧c<=1114111)):=by
  intro c;simp[Utf8.valid];omega
 have k:(q / 32==6)=decide (192<=q∧q<224):=YA
 have q2:(q / 16==14)=decide (224<=q∧q<240):=YA
 have e:(q / 8==30)=decide (240<=q∧q<248):=YA
 simp only[k,q2,e,QP,decide_eq_true_eq,v,ge_iff_le];clear k q2 e v;cases z<;>cases f<;>cases r<;>simp only[QQ,and_false,false_and,if_false,and_true,true_and,false_iff,true_iff]at c1 c2 n ⊢
 all_goals (repeat' split)<;>first|exact⟨rfl,na⟩|exact⟨rfl,rfl⟩|(exfalso;omega)|(refine⟨rfl,?_⟩;congr 1;omega)
def qB(s:Bs)(i:Nat)(hi:i<s.length):1<=(DW s i).2∧i+(DW s i).2<=s.length:=by
 grind [DW,D1]
def D2(s:Bs):Nat->Nat->Nat->Int
 |0,_,n=>if 12<n then 5 else 0
 |f+1,p,n=>if p<s.length then(if D5 (DW s p).1=true then D2 s f (p+(DW s p).2) (n+1)else 4)else if 12<n then 5 else 0
def H3(s:Bs):Int:=if s=[]∨s=[46]∨s=[46,46]∨s=[45]then 4 else D2 s s.length 0 0
def aHg:List D->Option D
 |[.str s]=>if s.length<=1000000 then some (.int .i64 (H3 s))else none
 |_=>none
def aI3{S:GR}{ns i:Id}{s:Bs}{e:Int}{Q:Ex->St->Prop}(k:s.length<=1000000)(a:S 387=some (Ac aHd))
  (x:∀z,e=4->z.s 2= .int .i64 4->Q .ret z) (b:∀z (n:Nat),(if 12<n then(5:Int)else 0)=e->z.s 3= .int .i64 (n:Int)->Q (.exit 0) z):
  ∀(f p n:Nat) z g,s.length<=p+f->p<=s.length->n<=p->D2 s f p n=e->z.s 21= .itp i->z.m i 1=some (.it s p)->z.s 3= .int .i64 (n:Int)->AK S ns Pt Q z g:=by
 intro f;induction f with
 |zero=>
  intro p n z g j o c q y r d;refine Af Pt.eq_1 ?_;have:¬(p<s.length):=O
  simp only[↓GQ,GX,Hf,simprocAttr,r,y,this];exact b _ n q XJ
 |succ f ih=>
  intro p n z g j o c q y r d;refine Af Pt.eq_1 ?_;unfold D2 at q;by_cases v:p<s.length
  ·rw[if_pos v]at q;obtain⟨n1,n2⟩:=qB s p v;obtain⟨d1,d2⟩:=aDM s p v;rw[←d1]at q n1 n2;rw[←d2]at q;have hG:aHd [.int .i32 ((Utf8.decode ⟨s.toArray⟩ p).1:Nat)]=some (.bool (D5 ((Utf8.decode ⟨s.toArray⟩ p).1:Nat))):=rfl;have w:IntKind.i64.wrap ((n:Int)+1)=((n+1:Nat):Int):=Hg O O;cases ho:D5 ((Utf8.decode ⟨s.toArray⟩ p).1:Nat)with
   |true=>
    rw[if_pos ho]at q;simp only[↓GQ,GT,simprocAttr,r,y,d,v,Ab a,hG,ho,w];exact ih _ _ _ _ O O O q y Yn rfl
   |false=>
    rw[if_neg (by rw[ho];simp)]at q;simp only[↓GQ,GT,simprocAttr,r,y,v,Ab a,hG,ho];exact x _ q.symm rfl
  ·rw[if_neg v]at q;simp only[↓GQ,GX,Hf,simprocAttr,r,y,v];exact b _ n q XJ
def aVe:Kq aHg 367:=by
 obtain⟨S,v,hl⟩:=A4 (Aa aVb Ae);have a:=hl 387 _ rfl;clear hl;refine AB (S:=S) v (Al func367:Fn Qo 367 32 aNt [.t 2]) (λds r h=>?_) (λds r h=>?_)
 ·unfold aHg at h;split at h
  ·simp
  ·cases h
 ·unfold aHg at h;split at h
  ·rename_i s;split at h
   ·rename_i i;simp only[Qi]at h;subst h;unfold aNt H3;by_cases y:s=[]∨s=[46]∨s=[46,46]∨s=[45]
    ·rw[if_pos y];rcases y with rfl|rfl|rfl|rfl<;>simp only[↓GQ,GT,simprocAttr,Qx,show((45:UInt8)=46)=False by decide,and_false,and_self]
    ·rw[if_neg y];obtain⟨a1,w,j,o⟩:s≠[]∧s≠[46]∧s≠[46,46]∧s≠[45]:=by simp only[not_or]at y;exact y
     have c:(s=[])=False:=eq_false a1;have f:(s=[46])=False:=eq_false w;have d:(s=[46,46])=False:=eq_false j;have g:(s=[45])=False:=eq_false o;simp only[↓GQ,GX,Hf,simprocAttr,c,f,d,g];refine aI3 (e:=D2 s s.length 0 0) i a (λz u q=>?_) (λz n u q=>?_) s.length 0 0 _ _ O O O rfl rfl Yn rfl
     ·simp only[↓GQ,GT,q,u]
     ·rw[←u];have c1:((12:Int)<(n:Int))=(12<n):=by simp only[eq_iff_iff];omega
      simp only[↓GQ,GX,simprocAttr,q,c1];refine aD (λh=>?_) (λh=>?_)<;>simp only[↓GQ,GT,simprocAttr,h]
   ·cases h
  ·cases h
end Go.Vd
namespace Go.Vd
open Go.RowKit
def splitC(q:UInt8):Bs->List Bs
 |[]=>[[]]
 |c::r=>if c=q then []::splitC q r else match splitC q r with
  |h::t=>(c::h)::t
  |[]=>[[c]]
def NU{q:UInt8}:∀s,splitC q s≠[]
 |[]=>by simp[splitC]
 |c::r=>by
  unfold splitC;split
  ·simp
  ·split<;>simp
theorem split_word{q:UInt8}{w:Bs}(h:q∉w):∀s,splitC q (w++q::s)=w::splitC q s:=by
 induction w with
 |nil=>intro s;simp[splitC]
 |cons c r ih=>
  intro s;simp only[Zq,not_or]at h;simp only[Q5,splitC];rw[if_neg (λe=>h.1 e.symm),ih h.2]
def split_one{q:UInt8}{w:Bs}(h:q∉w):splitC q w=[w]:=by
 induction w with
 |nil=>rfl
 |cons c r ih=>
  simp only[Zq,not_or]at h;simp only[splitC];rw[if_neg (λe=>h.1 e.symm),ih h.2]
def Gw(m:GV)(c e:Nat)(nl:Bool)(t:Id):Prop:=nl=true∨∃j,t=[j]∧j<c∧m t 0=some (.tok (e+1))
def Gw.grow{m:GV}{c e c' x:Nat}{nl:Bool}{t:Id}{xs:List D}(h:Gw m c e nl t)(g:c<=c'):I9 (m.put [c'] 0 [.tok x]) e (.slice nl t xs):=by
 rcases h with h|⟨j,rfl,u,q⟩
 ·exact .inl h
 ·refine .inr ⟨?_,U⟩;rw[aB Xc];exact q
theorem Gw.new{m:GV}{c e c':Nat}{nl:Bool}{t:Id}{xs:List D}(g:c'<c):Gw (Ha.app m (Be e [c'] (.slice nl t xs))) c e false [c']:=by
 refine .inr ⟨c',rfl,g,?_⟩;cases nl<;>simp[Be,Ha.app,Bp]
def Gw.more{m:GV}{c c' e:Nat}{nl:Bool}{t:Id}(h:Gw m c e nl t)(g:c<=c'):Gw m c' e nl t:=by
 rcases h with h|⟨j,u,q,d⟩
 ·exact .inl h
 ·exact .inr ⟨j,u,O,d⟩
def Gw.put{m:GV}{c e c' o:Nat}{nl:Bool}{t:Id}{ds:List D}(h:Gw m c e nl t)(g:c<=c':=by omega):Gw (m.put [c'] o ds) c e nl t:=by
 rcases h with h|⟨j,rfl,u,q⟩
 ·exact .inl h
 ·refine .inr ⟨j,rfl,u,?_⟩;rw[aB Xc];exact q
def GB:List D->Option (List Bs)
 |[]=>some []
 | .str s::r=>(GB r).map (s::·)
 |_=>none
def Fh:∀{xs:List D} {l:List Bs},GB xs=some l->xs=l.map .str
 |[],l,h=>by simp only[GB,Qi]at h;subst h;rfl
 |x::r,l,h=>by
  unfold GB at h;split at h
  ·rename_i y;cases y
  ·rename_i s n y;simp only[Qx]at y;obtain⟨rfl,rfl⟩:=y;rw[Qk]at h;obtain⟨z,u,rfl⟩:=h;rw[Fh u];rfl
  ·cases h
theorem GA:∀l:List Bs,GB (l.map .str)=some l
 |[]=>rfl
 |i::r=>by simp only[Q9,GB];rw[GA r];rfl
def W_:∀l:List Bs,(l.map D.str).all VG=true
 |[]=>rfl
 |w::r=>by
  show(VG (.str w)&&_)=true;rw[W_ r];rfl
end Go.Vd
namespace Go.Proofs
open Go.Shelf Go.RowKit Go.Lib
variable{P:Program}{ρ:Ren}
def Di{c:UInt8}{r:List UInt8}:∀{w:List UInt8},c∉w->Lib.indexByte (w++c::r) c=w.length
 |[],_=>by simp[Lib.indexByte]
 |b::w,h=>by
  simp only[Zq,not_or]at h;have ih:=Di (r:=r) h.2;have f:(b==c)=false:=beq_eq_false_iff_ne.2 (λe=>h.1 e.symm);have u:((w.length:Int)==-1)=false:=beq_eq_false_iff_ne.2 O;rw[Q5,Lib.indexByte,f,ih,u];simp
def splitK_eq(q:UInt8):∀(n:Nat)(s:List UInt8),s.length<=n->Lib.splitK [q] 0 (s.count q) s=Go.Vd.splitC q s:=by
 intro n;induction n with
 |zero=>intro s h;obtain rfl:s=[]:=Zr.1 O;rfl
 |succ n ih=>
  intro s h;by_cases a:q∈s
  ·obtain⟨w,r,rfl,t⟩:=List.eq_append_cons_of_mem a;have g:(w++q::r).count q=r.count q+1:=by rw[List.count_append,Zg t];simp
   have hi:Lib.index (w++q::r) [q]=w.length:=by rw[Lib.index_one];exact Di t
   have u:¬((w.length:Int)==-1)=true:=λe=>by have:=beq_iff_eq.1 e;omega
   rw[g,Lib.splitK,hi,if_neg u,Go.Vd.split_word t,Qp];have p:(w++q::r).take (w.length+0)=w:=U
   have m:(w++q::r).drop (w.length+[q].length)=r:=by
    simp_all
   rw[p,m,ih r (by simp at h;omega)]
  ·rw[Zg a,Go.Vd.split_one a];rfl
set_option maxHeartbeats 1000000 in
def split_space(q:UInt8)(L:Lays.n146 P ρ)(a:(P.info? (ρ.t 9)).map (λi=>(i.zero,i.size,i.bytes))=some (some (.string ByteArray.empty),1,16))(s:ByteArray)(w:World)(hs:s.size<4294967281):
  Calls P (ρ.f 146) #[.string s,.string ⟨#[q]⟩] w λe w'=>
   e= .returned (.slice (some ⟨w.heap.size,0,none⟩) (Lib.countB s ⟨#[q]⟩+1) (Lib.countB s ⟨#[q]⟩+1))∧w'=w.alloc (.cells ((Lib.splitB ⟨#[q]⟩ 0 (Lib.countB s ⟨#[q]⟩) s).map Value.string).toArray (ρ.t 9)):=by
 have u:1<=(⟨#[q]⟩:ByteArray).size:=Qz 1;have ta:=Lib.countB_le ⟨#[q]⟩ u s.size s (Qz _);have y:=Lib.splitB_all ⟨#[q]⟩ u 0 _ s rfl;have c:=Any.strings_genSplit_core {L with} a s ⟨#[q]⟩ 0 (-1) (Lib.countB s ⟨#[q]⟩+1) w hs u (QY _)
  (λx k _=>(Any.strings_Index_one {L with} x q _).mono λe w' ⟨m,p⟩=>⟨by rw[m,←Lib.index_one],p⟩)
  ((Any.strings_Count_one {L with} s q w).mono λe w' ⟨m,p⟩=>⟨by rw[m];show _=Ending.returned (Value.int .i64 ((Lib.count s.data.toList [q]:Nat):Int));rw[Lib.count_one];rfl,p⟩)
  Z Z (by rw[if_pos Z];omega)
 rw[ZA,y]at c;have e2:Lib.cellsOf (Lib.splitB ⟨#[q]⟩ 0 (Lib.countB s ⟨#[q]⟩) s) (Lib.countB s ⟨#[q]⟩+1)=((Lib.splitB ⟨#[q]⟩ 0 (Lib.countB s ⟨#[q]⟩) s).map Value.string).toArray:=by rw[←y];exact Lib.cellsOf_full _
 rw[e2]at c;have v:=L.t3;have r:=L.t9;have h:=L.t31;have n:=L.a3;have a9:=L.a9;have g:=L.a31;have z:=L.z3;have o:=L.v3;have z9:=L.z9;have v9:=L.v9;have j:=L.z31;have d:=L.v31;have b:∀args w,(callFunc (ρ.f 221) args).run P w= .ok (.enter (ρ.f 221) args) w:=enters_of L.f221 Xa rfl
 go_enter L.f146,Body.n146_ntmps ρ
 go_wp2_with (go_at_fn (ρ.f 221);refine c.mono ?_;rintro e w' ⟨rfl,p⟩;rw[p])
 go_ret
 exact Qg
end Go.Proofs
namespace Go.Vd
open Go.RowKit Go.Proofs
def DT:List D->Option D
 |[.str s,.str [q]]=>if s.length<=1000000 then some (.slice false [] ((splitC q s).map .str))else none
 |_=>none
def CB{q:UInt8}:∀s:Bs,(splitC q s).length<=s.length+1
 |[]=>by simp[splitC]
 |c::r=>by
  have ih:=CB (q:=q) r;unfold splitC;split
  ·simp;omega
  ·grind
def aA8 {P:Program} {ρ:Go.Shelf.Ren} (L:Go.Proofs.Lays.n146 P ρ) (a:(P.info? (ρ.t 9)).map (fun i=>(i.zero,i.size,i.bytes))=some (some (.string ByteArray.empty),1,16)) (ja:∃fn,P.funcs[ρ.f 146]?=some fn∧fn.body.isSome=true∧(fn.name== "runtime.NumGoroutine")=false):(Ac DT).ok P (ρ.f 146):=by
 refine⟨ja,λds m m' fr _=>rfl,?_⟩;intro B w0 w m g fr ds vs r u hi da hl fa p;simp only[Ac]at p;split at p
 ·rw[Qk]at p;obtain⟨r',c,p⟩:=p;simp only[Qq]at p;obtain⟨rfl,rfl⟩:=p
  match ds,vs,hl with
  |[d,d1],[v,v1],_=>
   have h0:=fa 0 d v rfl rfl;have y:=fa 1 d1 v1 rfl rfl;have hd:∃s,d= .str s:=by
    cases d<;>first|exact⟨_,rfl⟩|(exfalso;simp[DT,D.un]at c;done)
   obtain⟨s,rfl⟩:=hd;have na:∃q,d1= .str [q]:=by
    cases d1 with
    |str z=>
     simp only[Q9,Zv,D.un,DT]at c;split at c
     ·simp_all
     ·cases c
    |_=>exfalso;simp[DT,D.un]at c
   obtain⟨q,rfl⟩:=na;simp only[Q9,Zv,D.un,DT]at c;split at c
   ·rename_i hc;simp only[Qi]at c;subst c;rw[h0.str_inv,y.str_inv];have ga:Lib.countB ⟨s.toArray⟩ ⟨#[q]⟩=s.count q:=by
     show Lib.count s [q]=_;exact Lib.count_one q s
    have b:(Lib.splitB ⟨#[q]⟩ 0 (s.count q) ⟨s.toArray⟩).map (·.data.toList)=splitC q s:=by
     rw[Lib.splitB_data];exact Go.Proofs.splitK_eq q s.length s (Qz _)
    have ea:(splitC q s).length=s.count q+1:=by
     rw[←b,Qu,←ga];exact Lib.splitB_all ⟨#[q]⟩ (Qz 1) 0 _ _ rfl
    refine(Go.Proofs.split_space q L a ⟨s.toArray⟩ w (by show s.length<_;omega)).mono ?_;rintro ev w' ⟨rfl,rfl⟩;have k:Below w.heap.size w (w.alloc (.cells ((Lib.splitB ⟨#[q]⟩ 0 (Lib.countB ⟨s.toArray⟩ ⟨#[q]⟩) ⟨s.toArray⟩).map Value.string).toArray (ρ.t 9))):=(Below.refl _ _).alloc (Qz _) _;refine⟨_,g.over w _,rfl,hi.over k,Hk.over hi.gz k,aIB (e:=ρ.t 9) (n:=s.count q+1) hi k (W_ _) (by rw[Qu,ea]) ?_ U,λi hf _=>hf⟩;have o:=CB (q:=q) s;have j:((splitC q s).map D.str).map (λd=>Value.string ⟨(oO d).toArray⟩)=(Lib.splitB ⟨#[q]⟩ 0 (s.count q) ⟨s.toArray⟩).map Value.string:=by
     rw[←b,QL,QL];refine QC λx _=>?_
     rfl
    rw[j,ga];have ya:((Lib.splitB ⟨#[q]⟩ 0 (s.count q) ⟨s.toArray⟩).map Value.string).length=s.count q+1:=by
     rw[←ea,←b];simp
    refine⟨by rw[ya];omega,.inr ⟨w.heap.size,s.count q+1,_,rfl,Qz _,heap_alloc_new w _,Qz _,?_,?_,?_⟩⟩
    ·rw[ea]at o;have:maxLen=9223372036854775807:=rfl;omega
    ·rw[List.size_toArray,ya];omega
    ·rw[Zw (by rw[ya];omega)]
   ·cases c
  |[],_,_=>simp[DT]at c
  |[_],_,_=>simp[DT]at c
  |_::_::_::_,_,_=>simp[DT]at c
 ·cases p
end Go.Vd
namespace Go.Vd
open Go.Proofs Go.RowKit
def IN:Bool->List Bs->Option Bool
 |w,[]=>some w
 |w,p::r=>if H3 p=4 then none else IN (w||decide (H3 p=5)) r
def wI(w:Bool):Int:=if w=true then 5 else 0
def IP(l:List Bs):Int:=match IN false l with
 |none=>4
 |some w=>if w=true then 5 else if 6<l.length then 24 else 0
def okL(l:List Bs):Prop:=l.length<=1000001∧∀p∈l,p.length<=1000000
def ON(s:Bs):H3 s=4∨H3 s=5∨H3 s=0:=by
 have:∀f p n,D2 s f p n=4∨D2 s f p n=5∨D2 s f p n=0:=by
  intro f;induction f with
  |zero=>intro p n;unfold D2;split<;>simp
  |succ f ih=>
   intro p n;unfold D2;split
   ·grind
   ·split<;>simp
 unfold H3;split
 ·simp
 ·exact this _ _ _
open Classical in
def aHi:List D->Option D
 |[.slice _ _ xs]=>match GB xs with
  |some l=>if okL l then some (.int .i64 (IP l))else none
  |none=>none
 |_=>none
def aI4{S:GR}{ns:Id}{l:List Bs}{nl:Bool}{t:Id}{e:Option Bool}{Q:Ex->St->Prop}(i:okL l)(a:S 367=some (Ac aHg))
  (b:∀z,e=none->z.s 2= .int .i64 4->Q .ret z) (m:∀z w,e=some w->z.s 3= .int .i64 (wI w)->z.s 0= .slice nl t (l.map .str)->Q (.exit 0) z):
  ∀(n k:Nat)(w:Bool) z g,n=l.length-k->k<=l.length->IN w (l.drop k)=e->z.s 8= .int .i64 (k:Int)->z.s 7= .int .i64 (l.length:Int)->z.s 6= .slice nl t (l.map .str)->z.s 0= .slice nl t (l.map .str)->z.s 3= .int .i64 (wI w)->AK S ns Pu Q z g:=by
 intro n;induction n with
 |zero=>
  intro k w z g c j q h8 x r y d;refine Af Pu.eq_1 ?_;have:¬((k:Int)<l.length):=O
  simp only[↓GQ,GX,Hf,reduceIte,Qn,h8,x,this];rw[List.drop_eq_nil_of_le O]at q;exact m _ w q.symm XJ (by simp only[↓GQ,reduceIte,Qm,y])
 |succ n ih=>
  intro k w z g c j q h8 x r y d;refine Af Pu.eq_1 ?_;have ia:k<l.length:=O
  have v:((k:Int)<l.length):=O
  have u:(0:Int)<=(k:Int):=O
  have f:(l.map D.str)[(k:Int).toNat]?=some (.str (l[k])):=by simp[ia]
  have o:=i.1;have p:IntKind.i64.wrap ((k:Int)+1)=((k+1:Nat):Int):=Hg O O;have hF:aHg [.str l[k]]=some (.int .i64 (H3 l[k])):=if_pos (i.2 _ (Zf ia));rw[Q7 ia]at q;simp only[IN]at q;rcases ON l[k]with h|h|h
  ·rw[if_pos h]at q;rw[h]at hF;simp only[↓GQ,GT,simprocAttr,h8,x,r,v,u,f,Ab a,hF];exact b _ q.symm rfl
  ·rw[if_neg O,h]at q;rw[h]at hF;have c1:((5:Int)=4)=False:=by simp
   simp only[↓GQ,GT,simprocAttr,h8,x,r,v,u,f,Ab a,hF,c1,p];exact ih (k+1) true _ _ O O XD rfl x r y rfl
  ·rw[if_neg O,h]at q;rw[h]at hF;have c1:((0:Int)=4)=False:=by simp
   have c2:((0:Int)=5)=False:=U
   simp only[↓GQ,GT,simprocAttr,h8,x,r,v,u,f,Ab a,hF,c1,c2,p];exact ih (k+1) w _ _ O O XD rfl x r y d
def aVh:Kq aHi 335:=by
 obtain⟨S,v,hl⟩:=A4 (Aa aVe Ae);have a:=hl 367 _ rfl;clear hl;refine AB (S:=S) v (Al func335:Fn Qo 335 27 aNB [.t 2]) (λds r h=>?_) (λds r h=>?_)
 ·unfold aHi at h;split at h
  ·simp
  ·cases h
 ·unfold aHi at h;split at h
  ·rename_i nl t xs;split at h
   ·rename_i l hl;obtain rfl:=Fh hl;split at h
    ·rename_i f;simp only[Qi]at h;subst h;unfold aNB IP;simp only[↓GQ,GX,simprocAttr,Qu];have o:=f.1;refine aI4 (nl:=nl) (t:=t) (e:=IN false l) f a (λz u q=>?_) (λz w u q d=>?_) l.length 0 false _ _ O O rfl rfl rfl rfl rfl rfl
     ·simp only[↓GQ,GT,q,u]
     ·have c1:((6:Int)<(l.length:Int))=(6<l.length):=by simp only[eq_iff_iff];omega
      have c2:((5:Int)=0)=False:=U
      have n:((0:Int)=0)=True:=U
      cases w<;>simp only[wI,reduceIte,QQ]at q<;>simp only[↓GQ,GT,simprocAttr,u,q,d,Qu,c1,c2];refine aD (λh=>?_) (λh=>?_)<;>simp only[↓GQ,GT,simprocAttr,h,q,u]
    ·cases h
   ·cases h
  ·cases h
def AV(s:Bs):Int:=if 64<s.length then 5 else IP (splitC 47 s)
def Ru{s:Bs}(h:s.length<=1000000):okL (splitC 47 s):=by
 have:∀(s:Bs) w,w∈splitC 47 s->w.length<=s.length:=by
  intro s;induction s with
  |nil=>intro w t;simp[splitC]at t;simp[t]
  |cons c r ih=>
   intro w t;unfold splitC at t;split at t
   ·grind
   ·grind
 have z:=CB (q:=47) s;exact⟨O,λp o=>by have:=this s p o;omega⟩
end Go.Vd
namespace Go.Proofs
open Go.Shelf
def aN:Go.Shelf.Ren:=⟨λ|146=>106|221=>167|268=>225|138=>226|143=>227|195=>295|197=>296|218=>297|219=>298|260=>346|217=>347|225=>348|224=>349|267=>350|266=>371|314=>372|n=>n,λ|9=>9|31=>160|3=>3|4=>4|0=>0|105=>383|21=>21|5=>5|46=>138|119=>445|139=>448|138=>447|146=>245|51=>244|n=>n,λ|1=>0|3=>1|4=>2|n=>n⟩
def aS:Go.Proofs.Lays.n146 Qo aN:={
 mixed:=Xa
 f138:=func226.trans (congrArg some Xa)
 f143:=func227.trans (congrArg some Xa)
 f146:=func106.trans (congrArg some Xa)
 f195:=func295.trans (congrArg some Xa)
 f197:=func296.trans (congrArg some Xa)
 f217:=func347.trans (congrArg some Xa)
 f218:=func297.trans (congrArg some Xa)
 f219:=func298.trans (congrArg some Xa)
 f221:=func167.trans (congrArg some Xa)
 f224:=func349.trans (congrArg some Xa)
 f225:=func348.trans (congrArg some Xa)
 f260:=func346.trans (congrArg some Xa)
 f266:=func371.trans (congrArg some Xa)
 f267:=func350.trans (congrArg some Xa)
 f268:=func225.trans (congrArg some Xa)
 f314:=func372.trans (congrArg some Xa)
 t0:=underlying0
 a0:=isAgg0
 z0:=sizeOf0
 v0:=zeroValue0
 t3:=underlying3
 a3:=isAgg3
 z3:=sizeOf3
 v3:=zeroValue3
 t4:=underlying4
 a4:=isAgg4
 z4:=sizeOf4
 v4:=zeroValue4
 t5:=underlying5
 a5:=isAgg5
 z5:=sizeOf5
 v5:=zeroValue5
 t9:=underlying9
 a9:=isAgg9
 z9:=sizeOf9
 v9:=zeroValue9
 t21:=underlying21
 a21:=isAgg21
 z21:=sizeOf21
 v21:=zeroValue21
 t31:=underlying160
 a31:=isAgg160
 z31:=sizeOf160
 v31:=zeroValue160
 t46:=underlying138
 a46:=isAgg138
 z46:=sizeOf138
 v46:=zeroValue138
 t51:=underlying244
 a51:=isAgg244
 z51:=sizeOf244
 v51:=zeroValue244
 t105:=underlying383
 a105:=isAgg383
 z105:=sizeOf383
 v105:=zeroValue383
 t119:=underlying445
 a119:=isAgg445
 z119:=sizeOf445
 t138:=underlying447
 a138:=isAgg447
 z138:=sizeOf447
 v138:=zeroValue447
 t139:=underlying448
 a139:=isAgg448
 z139:=sizeOf448
 v139:=zeroValue448
 t146:=underlying245
 a146:=isAgg245
 z146:=sizeOf245
 v146:=zeroValue245
 g1:=Xa
 g3:=Xa
 g4:=Xa}
end Go.Proofs
namespace Go.Vd
open Go.Proofs Go.RowKit
def aIQ:Kq DT 106:=aA8 aS Xa ⟨_,func106,Xa,Xa⟩
open Classical in
def aHl:List D->Option D
 |[.str s]=>if s.length<=1000000 then some (.tup [if AV s=0 then .slice false [] ((splitC 47 s).map .str)else .slice true [] [],.int .i64 (AV s)])else none
 |_=>none
def aLp{l:List Bs}{nl:Bool}{t:Id}(h:okL l):aHi [.slice nl t (l.map .str)]=some (.int .i64 (IP l)):=by
 grind [aHi,GA]
def aVv:Kq aHl 270:=by
 obtain⟨S,v,hl⟩:=A4 (Aa aIQ (Aa aVh Ae));have p:=hl 106 _ rfl;have a:=hl 335 _ rfl;clear hl;refine AB (S:=S) v (Al func270:Fn Qo 270 17 aN4 [.t 2,.t 3]) (λds r h=>?_) (λds r h=>?_)
 ·unfold aHl at h;split at h
  ·simp
  ·cases h
 ·unfold aHl at h;split at h
  ·rename_i s;split at h
   ·rename_i y;simp only[Qi]at h;subst h;unfold aN4 AV;have c0:((64:Int)<(s.length:Int))=(64<s.length):=by simp only[eq_iff_iff];omega
    have o:((5:Int)=0)=False:=U
    have j:DT [.str s,.str [47]]=some (.slice false [] ((splitC 47 s).map .str)):=if_pos y;have i:=aLp (nl:=false) (t:=[]) (Ru y);have g:((splitC 47 s).map D.str).all D.calm=true:=by simp[Qv];intros;rfl
    by_cases w:64<s.length
    ·simp only[↓GQ,GT,simprocAttr,c0,w,o]
    ·simp only[↓GQ,GT,simprocAttr,c0,w,Ab p,Ab a,j,i];refine aD (λh=>?_) (λh=>?_)<;>simp only[↓GQ,GT,simprocAttr,h,w]
   ·cases h
  ·cases h
def iA:List D->Option D
 |[.str s]=>if s.length<=1000000 then some (.int .i64 (AV s))else none
 |_=>none
def pV:Kq iA 197:=by
 obtain⟨S,v,hl⟩:=A4 (Aa aVv Ae);have a:=hl 270 _ rfl;clear hl;refine AB (S:=S) v (Al func197:Fn Qo 197 11 aOT [.t 2]) (λds r h=>?_) (λds r h=>?_)
 ·unfold iA at h;split at h
  ·simp
  ·cases h
 ·unfold iA at h;split at h
  ·rename_i s;split at h
   ·rename_i g;simp only[Qi]at h;subst h;have j:aHl [.str s]=some (.tup [if AV s=0 then .slice false [] ((splitC 47 s).map .str)else .slice true [] [],.int .i64 (AV s)]):=by
     simp only[aHl,if_pos g]
    unfold aOT;simp only[↓GQ,GT,simprocAttr,Ab a,j]
   ·cases h
  ·cases h
def aOP:=y0 f212 [] []
def aN3:=y0 f278 [] []
def aNQ:=y0 f338 [] []
def aOU:=y0 f216 [] []
def aN5:=y0 f289 [] []
def aNS:=y0 f130 [] []
def A2(s t:Bs):Bool:=decide (s.take t.length=t)
def IJ{s t:Bs}(h:A2 s t=true):t.length<=s.length:=by
 grind [A2]
def Ck(s v:Bs):Bool:=if v=[]then decide (s≠[])else A2 s v&&A2 (s.drop v.length) [47]
def AR(s v:Bs):Bool:=decide (s=v)||Ck s v
def aBx(s v:Bs):Bs:=if v=[]then s else if A2 s v=true then(if A2 (s.drop v.length) [47]=true then(s.drop v.length).drop 1 else s.drop v.length)else []
def aAu:List D->Option D
 |[.str s,.str t]=>some (.bool (A2 s t))
 |_=>none
def aMv:Kq aAu 130:=by
 refine AB (S:=λ_=>none) AO (Al func130:Fn Qo 130 18 aNS [.t 4]) (λds r h=>?_) (λds r h=>?_)
 ·unfold aAu at h;split at h
  ·simp
  ·cases h
 ·unfold aAu at h;split at h
  ·rename_i s t;simp only[Qi]at h;subst h;unfold aNS;have c1:((t.length:Int)<=(s.length:Int))=(t.length<=s.length):=by simp only[eq_iff_iff];omega
   have c2:((0:Int)<=(t.length:Int))=True:=eq_true O;by_cases hl:t.length<=s.length
   ·simp only[↓GQ,GT,simprocAttr,c1,c2,hl,Qp,Ze,QR,and_self];simp[A2]
   ·simp only[↓GQ,GT,simprocAttr,c1,hl];have:A2 s t=false:=by rw[Bool.eq_false_iff];intro h;exact hl (IJ h)
    simp[this]
  ·cases h
def aLx:List D->Option D
 |[.str s,.str t]=>some (.tup [.str (if A2 s t=true then s.drop t.length else s),.bool (A2 s t)])
 |_=>none
def aVw:Kq aLx 289:=by
 obtain⟨S,v,hl⟩:=A4 (Aa aMv Ae);have a:=hl 130 _ rfl;clear hl;refine AB (S:=S) v (Al func289:Fn Qo 289 15 aN5 [.t 4,.t 5]) (λds r h=>?_) (λds r h=>?_)
 ·unfold aLx at h;split at h
  ·simp
  ·cases h
 ·unfold aLx at h;split at h
  ·rename_i s t;simp only[Qi]at h;subst h;unfold aN5;have c1:((t.length:Int)<=(s.length:Int))=(t.length<=s.length):=by simp only[eq_iff_iff];omega
   have c2:((0:Int)<=(t.length:Int))=True:=eq_true O;have j:aAu [.str s,.str t]=some (.bool (A2 s t)):=rfl;cases hp:A2 s t with
   |false=>simp only[↓GQ,GT,simprocAttr,Ab a,j,hp]
   |true=>
    have hl:=IJ hp;have e:(s.drop t.length).take (s.length-t.length)=s.drop t.length:=Zw U;simp only[↓GQ,GT,simprocAttr,Ab a,j,hp,c1,c2,hl,Qp,and_self,e]
  ·cases h
def aAA:List D->Option D
 |[.str s,.str t]=>some (.tup [.str (if A2 s t=true then s.drop t.length else s),.bool (A2 s t)])
 |_=>none
def aMG:Kq aAA 216:=by
 obtain⟨S,v,hl⟩:=A4 (Aa aVw Ae);have a:=hl 289 _ rfl;clear hl;refine AB (S:=S) v (Al func216:Fn Qo 216 11 aOU [.t 4,.t 5]) (λds r h=>?_) (λds r h=>?_)
 ·unfold aAA at h;split at h
  ·simp
  ·cases h
 ·unfold aAA at h;split at h
  ·rename_i s t;simp only[Qi]at h;subst h;unfold aOU;have j:aLx [.str s,.str t]=some (.tup [.str (if A2 s t=true then s.drop t.length else s),.bool (A2 s t)]):=rfl;simp only[↓GQ,GT,simprocAttr,Ab a,j]
  ·cases h
def aLt:List D->Option D
 |[.str s,.str t]=>some (.tup [.str (aBx s t),.bool (Ck s t)])
 |_=>none
def aVm:Kq aLt 338:=by
 obtain⟨S,v,hl⟩:=A4 (Aa aMG Ae);have a:=hl 216 _ rfl;clear hl;refine AB (S:=S) v (Al func338:Fn Qo 338 25 aNQ [.t 4,.t 5]) (λds r h=>?_) (λds r h=>?_)
 ·unfold aLt at h;split at h
  ·simp
  ·cases h
 ·unfold aLt at h;split at h
  ·rename_i s t;simp only[Qi]at h;subst h;unfold aNQ;have j:∀s t,aAA [.str s,.str t]=some (.tup [.str (if A2 s t=true then s.drop t.length else s),.bool (A2 s t)]):=λ_ _=>rfl
   unfold aBx Ck;by_cases w:t=[]
   ·have x:(t=[])=True:=eq_true w;simp only[↓GQ,GT,simprocAttr,x]
    try simp
   ·have x:(t=[])=False:=eq_false w;cases h1:A2 s t with
    |false=>simp only[↓GQ,GT,simprocAttr,x,Ab a,j,h1,Zo]
    |true=>
     cases h2:A2 (s.drop t.length) [47]with
     |false=>simp only[↓GQ,GT,simprocAttr,x,Ab a,j,h1,h2]
     |true=>simp only[↓GQ,GT,simprocAttr,x,Ab a,j,h1,h2,QH,QV]
  ·cases h
def aAv:List D->Option D
 |[.str s,.str t]=>some (.bool (Ck s t))
 |_=>none
def aMx:Kq aAv 278:=by
 obtain⟨S,v,hl⟩:=A4 (Aa aVm Ae);have a:=hl 338 _ rfl;clear hl;refine AB (S:=S) v (Al func278:Fn Qo 278 14 aN3 [.t 4]) (λds r h=>?_) (λds r h=>?_)
 ·unfold aAv at h;split at h
  ·simp
  ·cases h
 ·unfold aAv at h;split at h
  ·rename_i s t;simp only[Qi]at h;subst h;unfold aN3;have j:aLt [.str s,.str t]=some (.tup [.str (aBx s t),.bool (Ck s t)]):=rfl;simp only[↓GQ,GT,simprocAttr,Ab a,j]
  ·cases h
def aAz:List D->Option D
 |[.str s,.str t]=>some (.bool (AR s t))
 |_=>none
def aMF:Kq aAz 212:=by
 obtain⟨S,v,hl⟩:=A4 (Aa aMx Ae);have d:=hl 278 _ rfl;clear hl;refine AB (S:=S) v (Al func212:Fn Qo 212 13 aOP [.t 4]) (λds r h=>?_) (λds r h=>?_)
 ·unfold aAz at h;split at h
  ·simp
  ·cases h
 ·unfold aAz at h;split at h
  ·rename_i s t;simp only[Qi]at h;subst h;unfold aOP;have j:aAv [.str s,.str t]=some (.bool (Ck s t)):=rfl;unfold AR;by_cases g:s=t
   ·have f:(s=t)=True:=eq_true g;simp only[↓GQ,GT,simprocAttr,f]
    try simp
   ·have f:(s=t)=False:=eq_false g;simp only[↓GQ,GT,simprocAttr,f,Ab d,j]
    try simp
  ·cases h
def aYp:=y0 f309 [] []
def PS:=y1 f198 4 [] []
def aOS:=y0 f198 [] [(4,PS)]
def aXX:=y0 f127 [] []
def aOJ:=y0 f120 [] []
def aNY:=y0 f192 [] []
def aYm:=y0 Tryz.f267 [] []
def aNy:=y0 Tryz.f268 [] []
def aJ1:=y1 f333 2 [] []
def aYk:=y0 f333 [] [(2,aJ1)]
def PP:=y1 f121 4 [] []
def aOI:=y0 f121 [] [(4,PP)]
def aXZ:=y0 f294 [] []
def PT:=y1 f345 3 [] []
def aOV:=y0 f345 [] [(3,PT)]
def PU:=y1 f344 3 [] []
def aOW:=y0 f344 [] [(3,PU)]
def aOH:=y0 f293 [] []
def P4:=y1 Tryz.f221 7 [(9,[(6,2)])] []
def P3:=y1 Tryz.f221 4 [] [(7,P4)]
def aPB:=y0 Tryz.f221 [] [(4,P3)]
def I_(op:Int):Int:=if op=9∨op=14∨op=18 then 1 else if op=10∨op=15 then 2 else if op=11∨op=12 then 4 else if op=13∨op=16 then 8 else if op=17 then 16 else if 3<=op∧op<=8 then 32 else 0
def Ff(op:Int):Bool:=decide (4<=op∧op<=18∧op≠9∧op≠14∧op≠17)
def F27:List D->Option D
 |[.int .u8 op]=>some (.int .u8 (I_ op))
 |_=>none
def aZ1:Kq F27 309:=by
 refine AB (S:=λ_=>none) AO (Al func309:Fn Qo 309 26 aYp [.t 2]) (λds r h=>?_) (λds r h=>?_)
 ·unfold F27 at h;split at h
  ·simp
  ·cases h
 ·unfold F27 at h;split at h
  ·rename_i op;simp only[Qi]at h;subst h;unfold aYp;simp only[↓GQ,GX,simprocAttr]
   repeat' (first|(refine aD (λh=>?_) (λh=>?_)<;>try (exfalso;omega))|(simp only[↓GQ,GT,simprocAttr,h]))
   all_goals (first|rfl|(rw[D.int.injEq];refine⟨rfl,?_⟩;unfold I_;(repeat' split)<;>first|rfl|(exfalso;omega)))
  ·cases h
def D7(c:Int):Bool:=decide (97<=c∧c<=122)||decide (48<=c∧c<=57)
def H5(s:Bs):Nat->Nat->Bool
 |0,_=>true
 |f+1,p=>if p<s.length then D7 (Hm s p)&&H5 s f (p+1)else true
def BJ(s:Bs):Bool:=decide (1<=s.length)&&decide (s.length<=8)&&H5 s s.length 0
def aDN(s:Bs)(p:Nat)(o:p<s.length):D7 ((Utf8.decode ⟨s.toArray⟩ p).1:Nat)=D7 (Hm s p)∧(D7 (Hm s p)=true->(Utf8.decode ⟨s.toArray⟩ p).2=1):=by
 have a:=I0 s p;by_cases h:Hm s p<128
 ·have:Utf8.decode ⟨s.toArray⟩ p=(Hm s p,1):=by
   unfold Utf8.decode;simp only[Oj,Zm,h,if_true]
  rw[this];exact⟨rfl,λ_=>rfl⟩
 ·have u:D7 (Hm s p)=false:=by simp[D7];omega
  have q:128<=(Utf8.decode ⟨s.toArray⟩ p).1:=by
   unfold Utf8.decode;simp only[Oj,Zm,h,if_false]
   (repeat' split)<;>simp_all [Utf8.runeError]<;>omega
  refine⟨?_,λe=>by rw[u]at e;cases e⟩;rw[u];simp[D7];omega
def aJn{S:GR}{ns i:Id}{s:Bs}{Q:Ex->St->Prop}{e:Bool}(x:∀z,e=false->z.s 2= .bool false->Q .ret z)(b:∀z,e=true->Q (.exit 0) z):
  ∀(f p:Nat) z g,s.length<=p+f->H5 s f p=e->z.s 13= .itp i->z.m i 1=some (.it s p)->AK S ns PS Q z g:=by
 intro f;induction f with
 |zero=>
  intro p z g j q y r;refine Af PS.eq_1 ?_;have:¬(p<s.length):=O
  simp only[↓GQ,GX,Hf,simprocAttr,r,y,this];exact b _ q.symm
 |succ f ih=>
  intro p z g j q y r;refine Af PS.eq_1 ?_;unfold H5 at q;by_cases v:p<s.length
  ·rw[if_pos v]at q;obtain⟨d1,d2⟩:=aDN s p v;cases ho:D7 (Hm s p)with
   |true=>
    rw[ho,ZM]at q;have w:=d2 ho;rw[ho]at d1;have n:(97<=((Utf8.decode ⟨s.toArray⟩ p).1:Int)∧((Utf8.decode ⟨s.toArray⟩ p).1:Int)<=122)∨(48<=((Utf8.decode ⟨s.toArray⟩ p).1:Int)∧((Utf8.decode ⟨s.toArray⟩ p).1:Int)<=57):=by simpa[D7]using d1
    have o:z.m.put i 1 [.it s (p+(Utf8.decode ⟨s.toArray⟩ p).2)] i 1=some (.it s (p+1)):=by rw[Ea,if_pos ⟨rfl,rfl⟩,w]
    simp only[↓GQ,GX,Hf,simprocAttr,r,y,v]
    repeat' (first|(refine aD (λh=>?_) (λh=>?_)<;>try (exfalso;omega))|(simp only[↓GQ,GX,Hf,simprocAttr,h]))
    all_goals (first|exact ih _ _ _ O q y o|(exfalso;omega))
   |false=>
    rw[ho,Zo]at q;rw[ho]at d1;have n:¬((97<=((Utf8.decode ⟨s.toArray⟩ p).1:Int)∧((Utf8.decode ⟨s.toArray⟩ p).1:Int)<=122)∨(48<=((Utf8.decode ⟨s.toArray⟩ p).1:Int)∧((Utf8.decode ⟨s.toArray⟩ p).1:Int)<=57)):=by
     grind [D7]
    simp only[↓GQ,GX,Hf,simprocAttr,r,y,v]
    repeat' (first|(refine aD (λh=>?_) (λh=>?_)<;>try (exfalso;omega))|(simp only[↓GQ,GX,Hf,simprocAttr,h]))
    all_goals (first|exact x _ q.symm rfl|(exfalso;omega))
  ·rw[if_neg v]at q;simp only[↓GQ,GX,Hf,simprocAttr,r,y,v];exact b _ q.symm
def aLN:List D->Option D
 |[.str s]=>some (.bool (BJ s))
 |_=>none
def aVT:Kq aLN 198:=by
 refine AB (S:=λ_=>none) AO (Al func198:Fn Qo 198 31 aOS [.t 2]) (λds r h=>?_) (λds r h=>?_)
 ·unfold aLN at h;split at h
  ·simp
  ·cases h
 ·unfold aLN at h;split at h
  ·rename_i s;simp only[Qi]at h;subst h;unfold aOS;unfold BJ;have c1:((8:Int)<(s.length:Int))=(8<s.length):=by simp only[eq_iff_iff];omega
   by_cases y:s=[]
   ·subst y;simp only[↓GQ,GT,simprocAttr]
    try simp
   ·have i:(s=[])=False:=eq_false y;have hl:1<=s.length:=by cases s with|nil=>exact absurd rfl y|cons _ _=>simp
    by_cases w:8<s.length
    ·simp only[↓GQ,GT,simprocAttr,i,c1,w];simp;omega
    ·simp only[↓GQ,GX,Hf,simprocAttr,i,c1,w];have p:(decide (1<=s.length)&&decide (s.length<=8)&&H5 s s.length 0)=H5 s s.length 0:=by simp;omega
     rw[p];refine aJn (e:=H5 s s.length 0) (λz u q=>?_) (λz u=>?_) s.length 0 _ _ O rfl rfl Yn
     ·simp only[↓GQ,GT,u,q]
     ·simp only[↓GQ,GT,reduceIte,Qn,u]
  ·cases h
theorem Aj{m:GV}{i a:Id}{o o':Nat}{ds:List D}:m.put i o ds a o'=if a=i∧o<=o'∧o'<o+ds.length then ds[o'-o]? else m a o':=rfl
def Ar{m:GV}{i:Id}{o:Nat}:Ai m i o 0=some []:=rfl
def As{m:GV}{i:Id}{o n:Nat}:Ai m i o (n+1)=(m i o).bind λd=>(Ai m i (o+1) n).map (d::·):=by
 show(match m i o with|some d=>_|none=>none)=_;cases m i o<;>rfl
def Bo{s:Nat->D}{m:GV}{k:Option Nat}{a:Nat}:B6 [.cell k a] s m=WF m k (s a):=by
 simp only[B6,Fj,RV.of];cases WF m k (s a)<;>rfl
def AY{m:GV}{n:Nat}{i:Id}{o:Nat}:WF m (some n) (.ptr i o)=(Ai m i o n).map .agg:=rfl
def Br(k:Int)(name:Bs)(n:Int):Int:=
 if k=1 then(if n=0∧AV name=0 then 0 else 2)else if k=2 then(if 1<=n∧n<=30∧AV name=0 then 0 else 2)else if k=3 then(if n=0∧BJ name=true then 0 else 2)
 else if k=4∨k=5 then(if n=0∧name=[]then 0 else 2)else 22
def F98:List D->Option D
 |[.agg [.int .u8 k,.str name,.int .i64 n]]=>if name.length<=1000000 then some (.int .i64 (Br k name n))else none
 |_=>none
def aIO:Kq F98 127:=by
 obtain⟨S,v,hl⟩:=A4 (Aa pV (Aa aVT Ae));have o:=hl 197 _ rfl;have d:=hl 198 _ rfl;clear hl;refine AB (S:=S) v (Al func127:Fn Qo 127 53 aXX [.t 2]) (λds r h=>?_) (λds r h=>?_)
 ·unfold F98 at h;split at h
  ·simp
  ·cases h
 ·unfold F98 at h;split at h
  ·rename_i k name n;split at h
   ·rename_i g;simp only[Qi]at h;subst h;unfold aXX;have a:iA [.str name]=some (.int .i64 (AV name)):=if_pos g;have c:aLN [.str name]=some (.bool (BJ name)):=rfl;unfold Br;generalize AV name=e at *;generalize BJ name=b at *;simp only[↓GQ,GX,Hx,simprocAttr,Aj,QY,Ze,Hs,Qs,Ql,and_self]
    repeat' (first|(refine aD (λh=>?_) (λh=>?_)<;>try (exfalso;omega))|(simp only[↓GQ,Hb,simprocAttr,h,Aj,Ql,Ab o,Ab d,a,c]))
    all_goals (first|rfl|(rw[D.int.injEq];refine⟨rfl,?_⟩;(repeat' split)<;>first|rfl|(exfalso;simp_all;done)|(exfalso;simp_all;omega)))
   ·cases h
  ·cases h
def aHq:List D->Option D
 |[.str s]=>if s.length<=1000000 then some (.bool (BJ s))else none
 |_=>none
def aVN:Kq aHq 120:=by
 obtain⟨S,v,hl⟩:=A4 (Aa aIO Ae);have a:=hl 127 _ rfl;clear hl;refine AB (S:=S) v (Al func120:Fn Qo 120 7 aOJ [.t 2]) (λds r h=>?_) (λds r h=>?_)
 ·unfold aHq at h;split at h
  ·simp
  ·cases h
 ·unfold aHq at h;split at h
  ·rename_i s;split at h
   ·rename_i g;simp only[Qi]at h;subst h;unfold aOJ;have j:F98 [.agg [.int .u8 3,.str s,.int .i64 0]]=some (.int .i64 (Br 3 s 0)):=if_pos g;have e:Br 3 s 0=if BJ s=true then 0 else 2:=by simp[Br]
    simp only[↓GQ,GT,simprocAttr,Eh,QS,QD,Zk,QR,Q5,Zx,and_self,Bw,Ab a,j,e,Hs,and_self];cases BJ s<;>simp
   ·cases h
  ·cases h
def FQ(m:GV):List D->Option D
 |[]=>some .junk
 |[.ptr i 0]=>m i 0
 |_=>none
def aJ9:List D->List Loc
 |[.ptr i 0]=>[(i,0)]
 |_=>[]
theorem SF{m m':GV}{caps:List D}(h:∀l∈aJ9 caps,m l.1 l.2=m' l.1 l.2):FQ m caps=FQ m' caps:=by
 unfold FQ;split
 ·rfl
 ·simp_all [aJ9]
 ·rfl
def IZ(F:D->D->Option D):HA where
 rd:=λds _=>aJ9 ds.tail
 ex:=λds m _=>match ds with
  |x::caps=>(FQ m caps).bind λc=>(F c x).map λd=>(d,[])
  |[]=>none
def FF:List (Option D)->Option (List Bool)
 |[]=>some []
 |some (.bool b)::r=>(FF r).map (b::·)
 |_=>none
def BP(l:List Bool):Int:=match l.findIdx? id with
 |some k=>k
 |none=>-1
def Sl(l:List Bool):decide (0<=BP l)=l.any id:=by
 grind [BP]
def qZ:Option Nat->D->Bool
 |none,.agg _=>false
 |none,_=>true
 |some n,.agg cs=>cs.length==n
 |some _,_=>false
def fnR(ds:List D):List Loc:=match ds with
 |[_,.fn _ caps]=>aJ9 caps
 |_=>[]
def FO(g:FuncId)(k:Option Nat)(F:D->D->Option D):HA where
 rd:=λds _=>fnR ds
 ex:=λds m _=>match ds with
  |[.slice _ _ xs,.fn g' caps]=>if g'=g∧xs.length<=1000000∧xs.all (qZ k)=true then(FQ m caps).bind λc=>(FF (xs.map (F c))).map λbs=>(.int .i64 (BP bs),[])else none
  |_=>none
def iD(g:FuncId)(k:Option Nat)(F:D->D->Option D):HA where
 rd:=λds _=>fnR ds
 ex:=λds m _=>match ds with
  |[.slice _ _ xs,.fn g' caps]=>if g'=g∧xs.length<=1000000∧xs.all (qZ k)=true then(FQ m caps).bind λc=>(FF (xs.map (F c))).map λbs=>(.bool (bs.any id),[])else none
  |_=>none
def aJZ(sz:Nat)(k:Option Nat):DC:=(.seq (.row [⟨some 9,.bin .lss (.t 8) (.t 7),[],none⟩]) (.seq (.cond (.t 9) .skip (.exit 0)) (.seq (.block 1 (.seq (.row [⟨some 10,.mv (.t 8),[],none⟩,⟨some 5,.mv (.t 10),[],none⟩]) (.seq (.row [⟨some 11,.mv (.t 1),[],none⟩,⟨some 12,.mv (.t 0),[],none⟩,⟨some 13,.mv (.t 5),[],none⟩,⟨some 14,.iaddr sz (.t 12) (.t 13),[],none⟩,⟨some 15,.load k (.t 14),[],none⟩,⟨some 16,.call (.t 11) [(.t 15)],[],none⟩]) (.cond (.t 16) (.seq (.row [⟨some 17,.mv (.t 5),[],none⟩,⟨some 4,.mv (.t 17),[],none⟩]) .ret) .skip)))) (.row [⟨some 18,.bin .add (.t 8) (.c (.int .i64 1)),[],none⟩,⟨some 8,.mv (.t 18),[],none⟩]))))
def dcI(sz:Nat)(k:Option Nat):DC:=(.seq (.row [⟨some 4,.mv (.c (.int .i64 0)),[],none⟩]) (.seq (.seq (.row [⟨some 6,.mv (.t 0),[],none⟩,⟨some 7,.len false (.t 6),[],none⟩,⟨some 8,.mv (.c (.int .i64 0)),[],none⟩]) (.block 0 (.loop (aJZ sz k)))) (.seq (.row [⟨some 4,.mv (.c (.int .i64 (-1))),[],none⟩]) .ret)))
def aJ0(f:FuncId):DC:=(.seq (.row [⟨some 4,.mv (.c (.bool false)),[],none⟩]) (.seq (.row [⟨some 5,.mv (.t 0),[],none⟩,⟨some 6,.mv (.t 1),[],none⟩,⟨some 7,.call (.c (.fn f [])) [(.t 5),(.t 6)],[],none⟩,⟨some 8,.bin .geq (.t 7) (.c (.int .i64 0)),[],none⟩,⟨some 4,.mv (.t 8),[],none⟩]) .ret))
def aQP(sz:Nat):Option Nat->Prop
 |none=>sz=1
 |some n=>sz=n
def aSO{sz:Nat}{k:Option Nat}(h:aQP sz k){x:D}(f:qZ k x=true):x.cells.length=sz:=by
 cases k with
 |none=>cases x<;>first|(cases f;done)|exact h.symm
 |some n=>cases x<;>first|(cases f;done)|(simp only[qZ,beq_iff_eq]at f;exact f.trans h.symm)
def aDA{m:GV}{k:Option Nat}{x:D}{K:D->Ha->Prop}{t:Tag (m,K)}(f:qZ k x=true):R5 k (.eptr x.cells) m K t=K x []:=by
 cases k with
 |none=>cases x<;>first|(cases f;done)|(simp only[R4,D.cells,Q_,A3])
 |some n=>
  cases x<;>first|(cases f;done)|skip
  rename_i cs;simp only[qZ,beq_iff_eq]at f;subst f;simp only[OR,D.cells,Qz,UM,ZD]
def Ns:∀{l:List (Option D)} {bs:List Bool},FF l=some bs->l=bs.map λb=>some (.bool b)
 |[],bs,h=>by simp only[FF,Qi]at h;subst h;rfl
 |x::r,bs,h=>by
  unfold FF at h;split at h
  ·rename_i e;cases e
  ·rename_i b n e;cases e;rw[Qk]at h;obtain⟨f,u,rfl⟩:=h;rw[Ns u];rfl
  ·cases h
def aWL{S:GR}{ns:Id}{sz:Nat}{k:Option Nat}{g:FuncId}{F:D->D->Option D}{xs caps:List D}{c:D}{bs:List Bool}{nl:Bool}{t:Id}{m:GV}{Q:Ex->St->Prop}(pa:aQP sz k)(hg:S g=some (IZ F))(hb:xs.length<=1000000)(x:xs.all (qZ k)=true)
  (o:FQ m caps=some c) (ia:xs.map (F c)=bs.map λb=>some (.bool b))
  (oa:∀(j:Nat) z,z.m=m->bs.findIdx? id=some j->z.s 4= .int .i64 (j:Int)->Q .ret z) (fa:∀z,z.m=m->bs.findIdx? id=none->Q (.exit 0) z):
  ∀(n j:Nat) z tg,n=xs.length-j->j<=xs.length->(∀i,i<j->bs[i]?=some false)->z.m=m->z.s 8= .int .i64 (j:Int)->z.s 7= .int .i64 (xs.length:Int)->z.s 0= .slice nl t xs->z.s 1= .fn g caps->AK S ns (aJZ sz k) Q z tg:=by
 intro n;have ea:bs.length=xs.length:=by simpa using (congrArg ZF ia).symm
 induction n with
 |zero=>
  intro j z tg hn d p a h8 h7 y u;refine Af (aJZ.eq_1 sz k) ?_;have:¬((j:Int)<xs.length):=O
  simp only[↓GQ,GX,Hf,reduceIte,Qn,h8,h7,this];refine fa _ a (List.findIdx?_eq_none_iff.2 λb va=>?_);obtain⟨i,hi,rfl⟩:=Q8 va;have:=p i O;rw[Qj hi]at this;simpa using QF this
 |succ n ih=>
  intro j z tg hn d p a h8 h7 y u;refine Af (aJZ.eq_1 sz k) ?_;have ta:j<xs.length:=O
  have v:((j:Int)<xs.length):=O
  have ma:=nJ (j:=j);have f:xs[j]?=some xs[j]:=Qj ta;have q:qZ k xs[j]=true:=Qv.1 x _ (Zf ta);have sa:=aSO pa q;have hw:=wJ (j:=j) O;obtain⟨ja,ga,r⟩:=z;simp only at a h8 h7 y u;subst a;have hF:F c xs[j]=some (.bool (bs[j]' O)):=by
   have e:=congrArg (·[j]?) ia;simp only[QI,f,QN,Qj (show j<bs.length by omega)]at e;exact QF e
  have w:∀fr,(IZ F).ex (xs[j]::caps) ga fr=some (.bool (bs[j]' O),[]):=by
   grind [IZ]
  simp only[↓GQ,GX,Hf,simprocAttr,h8,h7,y,u,v,ma,Qp,f,sa,aDA q,A7 hg,w];cases hbj:bs[j]' O with
  |true=>
   simp only[↓GQ,GX,simprocAttr];refine oa j _ rfl ?_ rfl;rw[List.findIdx?_eq_some_iff_getElem];refine⟨O,by simp[hbj],λi hi=>?_⟩;have:=p i hi;rw[Qj O]at this;simp[QF this]
  |false=>
   simp only[↓GQ,GX,simprocAttr,h8,hw];refine ih (j+1) _ _ O O (λi hi=>?_) rfl rfl h7 y u;rcases Nat.lt_or_eq_of_le (Nat.le_of_lt_succ hi)with hi|rfl
   ·exact p i hi
   ·simp_all
def Un{ds:List D}{m m':GV}(h:∀l∈fnR ds,m l.1 l.2=m' l.1 l.2){x:D}{g:FuncId}{caps:List D}(e:ds=[x,.fn g caps]):FQ m caps=FQ m' caps:=by
 subst e;exact SF h
def Oe{P:Program}{f g:FuncId}{sz:Nat}{k:Option Nat}{F:D->D->Option D}{N:Nat}(e:2<=N)(hf:Fn P f N (dcI sz k) [.t 4])(s:aQP sz k)(hg:(IZ F).ok P g):(FO g k F).ok P f:=by
 have v:GR.ok P (Az [(g,IZ F)]):=Aa hg Ae;have b:Az [(g,IZ F)] g=some (IZ F):=by simp[Az]
 generalize Az [(g,IZ F)]=S at v b;refine N4 v hf (λds m m' fr h=>?_) (λds m fr r u w _=>?_)
 ·simp only[FO]at h ⊢;split
  ·rename_i nl t xs n caps;rw[Un h rfl]
  ·rfl
 ·simp only[FO]at w;split at w
  ·rename_i nl t xs n caps;split at w
   ·rename_i p;obtain⟨rfl,hb,ha⟩:=p;rw[QB]at w;obtain⟨c,ca,w⟩:=w;rw[Qk]at w;obtain⟨bs,ia,w⟩:=w;simp only[Qq]at w;obtain⟨rfl,rfl⟩:=w;refine⟨e,?_⟩;unfold dcI;simp only[↓GQ,GX,simprocAttr];refine aWL (xs:=xs) (caps:=caps) (c:=c) (bs:=bs) (nl:=nl) (t:=t) (m:=m) s b hb ha ca (Ns ia) (λj z a y q=>?_) (λz a y=>?_) xs.length 0 _ _ O O U rfl rfl rfl rfl rfl
    ·simp only[↓GQ,GX,Hf,q,BP,y,a];exact λi o x h=>h
    ·simp only[↓GQ,GX,Hf,reduceIte,Qn,BP,y,a];exact λi o x h=>h
   ·cases w
  ·cases w
def rN{P:Program}{f h g:FuncId}{k:Option Nat}{F:D->D->Option D}{N:Nat}(e:2<=N)(j:Fn P f N (aJ0 h) [.t 4])(hi:(FO g k F).ok P h):(iD g k F).ok P f:=by
 have v:GR.ok P (Az [(h,FO g k F)]):=Aa hi Ae;have y:Az [(h,FO g k F)] h=some (FO g k F):=by simp[Az]
 generalize Az [(h,FO g k F)]=S at v y;refine N4 v j (λds m m' fr h=>?_) (λds m fr r u w _=>?_)
 ·simp only[iD]at h ⊢;split
  ·rename_i nl t xs n caps;rw[Un h rfl]
  ·rfl
 ·simp only[iD]at w;split at w
  ·rename_i nl t xs n caps;split at w
   ·rename_i p;rw[QB]at w;obtain⟨c,ca,w⟩:=w;rw[Qk]at w;obtain⟨bs,ia,w⟩:=w;simp only[Qq]at w;obtain⟨rfl,rfl⟩:=w;refine⟨e,?_⟩;have q:∀fr,(FO g k F).ex [.slice nl t xs,.fn n caps] m fr=some (.int .i64 (BP bs),[]):=by
     grind [FO]
    unfold aJ0;simp only[↓GQ,GX,Hf,simprocAttr,A7 y,q];exact⟨by rw[←Sl],λi o x h=>h⟩
   ·cases w
  ·cases w
def aOR:=y0 f209 [] []
def aOQ:=y0 f211 [] []
def aPL:=y0 Tryz.f143 [] []
def aPK:=y0 f144 [] []
def Ov{S:GR}{P:Program}{f:FuncId}{N:Nat}{b:DC}{rs:List RV}{F:D->D->Option D}(v:GR.ok P S)(j:Fn P f N b rs)
  (s:∀x caps m fr c d,FQ m caps=some c->F c x=some d->(∀k i o,(k::fr)<:+i->m i o=none)->caps.length<=1->(caps.length+1<=N)∧b.wp S fr (DV rs λn m'=>n=d∧∀i o y,m i o=some y->m' i o=some y) ⟨Bz (x::caps),m,0⟩):(IZ F).ok P f:=by
 refine N4 v j (λds m m' fr h=>?_) (λds m fr r u w na=>?_)
 ·grind [IZ,SF]
 ·simp only[IZ]at w;split at w
  ·rename_i x caps;rw[QB]at w;obtain⟨c,ca,w⟩:=w;rw[Qk]at w;obtain⟨d,z,w⟩:=w;simp only[Qq]at w;obtain⟨rfl,rfl⟩:=w;have hl:caps.length<=1:=by
    unfold FQ at ca;split at ca
    ·simp
    ·simp
    ·cases ca
   obtain⟨h1,q⟩:=s x caps m fr c d ca z na hl;exact⟨h1,q⟩
  ·cases w
def SE{m:GV}{caps:List D}{p:Bs}(h:FQ m caps=some (.str p)):∃i,caps=[.ptr i 0]∧m i 0=some (.str p):=by
 unfold FQ at h;split at h
 ·cases h
 ·exact⟨_,rfl,h⟩
 ·cases h
def aAo:D->D->Option D
 | .str p,.agg [.str q,.int .u8 _]=>some (.bool (decide (q=p)))
 |_,_=>none
def aG5:D->D->Option D
 | .str p,.agg [.str q,.int .i64 _,.bool _]=>some (.bool (decide (q=p)))
 |_,_=>none
def aAr:D->D->Option D
 | .str p,.str q=>some (.bool (AR p q||AR q p))
 |_,_=>none
def aSU:(IZ aAo).ok Qo 268:=by
 refine Ov (S:=λ_=>none) AO (Al func268:Fn Qo 268 9 aNy [.t 3]) (λx caps m fr c d ca j na hl=>⟨O,?_⟩);unfold aAo at j;split at j
 ·rename_i p q k;simp only[Qi]at j;subst j;obtain⟨i,rfl,r⟩:=SE ca;have hi:i≠0::fr:=by rintro rfl;have:=na 0 (0::fr) 0 (Zs _);rw[r]at this;cases this
  unfold aNy;simp only[↓GQ,Hb,simprocAttr,r,hi,Aj];intro i o y h;split
  ·grind
  ·exact h
 ·cases j
def aSY:(IZ aG5).ok Qo 209:=by
 refine Ov (S:=λ_=>none) AO (Al func209:Fn Qo 209 8 aOR [.t 3]) (λx caps m fr c d ca j na hl=>⟨O,?_⟩);unfold aG5 at j;split at j
 ·rename_i p q k b;simp only[Qi]at j;subst j;obtain⟨i,rfl,r⟩:=SE ca;have hi:i≠0::fr:=by rintro rfl;have:=na 0 (0::fr) 0 (Zs _);rw[r]at this;cases this
  unfold aOR;simp only[↓GQ,Hb,simprocAttr,r,hi,Aj];intro i o y h;split
  ·grind
  ·exact h
 ·cases j
def aSX:(IZ aAr).ok Qo 211:=by
 obtain⟨S,v,hl⟩:=A4 (Aa aMF Ae);have a:=hl 212 _ rfl;clear hl;refine Ov (S:=S) v (Al func211:Fn Qo 211 12 aOQ [.t 3]) (λx caps m fr c d o j na hl=>⟨O,?_⟩);unfold aAr at j;split at j
 ·rename_i p q;simp only[Qi]at j;subst j;obtain⟨i,rfl,r⟩:=SE o;have k:∀p q,aAz [.str p,.str q]=some (.bool (AR p q)):=λ_ _=>rfl
  unfold aOQ;cases h1:AR p q with
  |false=>simp only[↓GQ,GT,simprocAttr,r,Ab a,k,h1];simp
  |true=>simp only[↓GQ,GT,simprocAttr,r,Ab a,k,h1];simp
 ·cases j
def aXS:Fn Qo 208 19 (dcI 3 (some 3)) [.t 4]:=⟨f208,_,func208,rfl,Xa,rfl,Xa,Xa⟩
def aNg:Fn Qo 277 19 (dcI 1 none) [.t 4]:=⟨f277,_,func277,rfl,Xa,rfl,Xa,Xa⟩
def aXP:Fn Qo 351 19 (dcI 1 none) [.t 4]:=⟨f351,_,func351,rfl,Xa,rfl,Xa,Xa⟩
def aNl:Fn Qo 210 9 (aJ0 277) [.t 4]:=⟨f210,_,func210,rfl,Xa,rfl,Xa,Xa⟩
def aXQ:Fn Qo 299 9 (aJ0 351) [.t 4]:=⟨f299,_,func299,rfl,Xa,rfl,Xa,Xa⟩
def aSA:(FO 268 (some 2) aAo).ok Qo 333:=Oe O (Al func333:Fn Qo 333 19 aYk [.t 4]) rfl aSU
def aYy:(iD 268 (some 2) aAo).ok Qo 267:=rN O (Al func267:Fn Qo 267 9 aYm [.t 4]) aSA
def aSE:(FO 209 (some 3) aG5).ok Qo 208:=Oe O aXS rfl aSY
def aSD:(FO 211 none aAr).ok Qo 277:=Oe O aNg rfl aSX
def aYA:(iD 211 none aAr).ok Qo 210:=rN O aNl aSD
abbrev Rl:=Bs×Int
def bP(r:Rl):D:= .agg [.str r.1,.int .u8 r.2]
def Am(l:List Rl):List D:=l.map bP
def rlT:D->Rl
 | .agg [.str q,.int .u8 k]=>(q,k)
 |_=>([],0)
def Bc(xs:List D):List Rl:=xs.map rlT
theorem AS(l:List Rl):Bc (Am l)=l:=by
 simp only[Bc,Am,QL]
 conv=>rhs;rw[←ZG l]
 exact QC λr _=>rfl
def Bx(l:List Rl)(j:Nat):Rl:=l.getD j ([],0)
theorem Ay(l:List Rl):(Am l).length=l.length:=Qu ..
def DL{l:List Rl}{j:Nat}(h:j<l.length):(Am l)[j]?=some (bP (Bx l j)):=by
 grind [Am,Bx]
def Lh(l:List Rl)(j:Nat):(Am l).take j=Am (l.take j):=(List.map_take ..).symm
def aBt(l:List Rl):(Am l).all (qZ (some 2))=true:=by
 rw[Qv];intro x f;obtain⟨r,_,rfl⟩:=QW.1 f;rfl
def N0(l:List Rl):aF (Am l) 2=2:=XB
def FU(l:List Rl)(q:Bs):Bool:=l.any λr=>decide (r.1=q)
def Io(r:Rl)(l:List Rl):Int:=if r.1≠[]∧AV r.1≠0 then AV r.1 else if 63<r.2 then 2 else if FU l r.1=true then 20 else 0
def DJ(l:List Rl):Nat->Nat->Int
 |0,_=>0
 |f+1,j=>if j<l.length then(if Io (Bx l j) (l.take j)≠0 then Io (Bx l j) (l.take j)else DJ l f (j+1))else 0
def B4(l:List Rl):Int:=if 4<l.length then 24 else DJ l l.length 0
def BR(l:List Rl):Prop:=∀r∈l,r.1.length<=1000000
def Ix{l:List Rl}(h:BR l){j:Nat}(w:j<l.length):(Bx l j).1.length<=1000000:=by
 have:Bx l j=l[j]:=by simp[Bx,Qj w]
 rw[this];exact h _ (Zf w)
def DE(bs:List Bool):FF (bs.map λb=>some (.bool b))=some bs:=by
 induction bs with
 |nil=>rfl
 |cons b r ih=>simp only[Q9,FF,ih,QN]
def aE5{l:List Rl}{nl:Bool}{t:Id}(hl:l.length<=1000000){q:Bs}(m:GV)(fr i:Id)(a:m i 0=some (.str q)):
  (iD 268 (some 2) aAo).ex [.slice nl t (Am l),.fn 268 [.ptr i 0]] m fr=some (.bool (FU l q),[]):=by
 have e:(Am l).map (aAo (.str q))=(l.map λr=>decide (r.1=q)).map λb=>some (.bool b):=by
  simp only[Am,QL];exact QC λr _=>rfl
 simp only[iD,Ay,hl,aBt,and_self,if_true,FQ,a,Qw,e,DE,QN];simp only[FU,ZS];rfl
open Classical in
def aHj:List D->Option D
 |[.agg [.str q,.int .u8 k],.slice _ _ xs]=>if xs=Am (Bc xs)∧xs.length<=1000000∧q.length<=1000000 then some (.int .i64 (Io (q,k) (Bc xs)))else none
 |_=>none
def aVq:Kq aHj 192:=by
 obtain⟨S,v,hl⟩:=A4 (Aa pV (Aa aYy Ae));have o:=hl 197 _ rfl;have b:=hl 267 _ rfl;clear hl;refine AB (S:=S) v (Al func192:Fn Qo 192 21 aNY [.t 4]) (λds r h=>?_) (λds r h=>?_)
 ·unfold aHj at h;split at h
  ·simp
  ·cases h
 ·unfold aHj at h;split at h
  ·rename_i q k nl t xs;split at h
   ·rename_i g;obtain⟨f,y,z⟩:=g;simp only[Qi]at h;subst h;generalize Bc xs=l at f;subst f;rw[Ay]at y;have a:iA [.str q]=some (.int .i64 (AV q)):=if_pos z;unfold aNY Io;generalize AV q=e at *;simp only[↓GQ,GX,Hx,simprocAttr,Aj,QY,Ze,Hs,Qs,and_self]
    repeat' (first|(refine aD (λh=>?_) (λh=>?_)<;>try (exfalso;omega))|(simp only[↓GQ,Hb,simprocAttr,h,Aj,Ql,Ab o,a,A7 b,aE5 (q:=q) y]))
    all_goals (first|rfl|(rw[D.int.injEq];refine⟨rfl,?_⟩;(repeat' split)<;>first|rfl|(exfalso;simp_all;done)|(exfalso;simp_all;omega)))
   ·cases h
  ·cases h
open Classical in
def aLv{q:Bs}{k:Int}{nl:Bool}{t:Id}{l:List Rl}(hl:l.length<=1000000)(z:q.length<=1000000):aHj [.agg [.str q,.int .u8 k],.slice nl t (Am l)]=some (.int .i64 (Io (q,k) l)):=by
 have h:Am l=Am (Bc (Am l))∧(Am l).length<=1000000∧q.length<=1000000:=⟨by rw[AS],by rw[Ay];exact hl,z⟩;show(if _ then _ else _)=_;rw[if_pos h,AS]
def aJk{S:GR}{ns:Id}{l:List Rl}{nl:Bool}{t:Id}{Q:Ex->St->Prop}{e:Int}(a:S 192=some (Ac aHj))(i:l.length<=4)(u:BR l)
  (x:∀z,e≠0->z.s 2= .int .i64 e->Q .ret z) (fa:∀z,e=0->Q (.exit 0) z):
  ∀(f j:Nat) z g,l.length=j+f->DJ l f j=e->z.s 0= .slice nl t (Am l)->z.s 9= .slice nl t (Am l)->z.s 10= .int .i64 (l.length:Int)->z.s 11= .int .i64 (j:Int)->AK S ns PP Q z g:=by
 intro f;induction f with
 |zero=>
  intro j z g hf m y h9 w o;refine Af PP.eq_1 ?_;have:¬((j:Int)<l.length):=O
  simp only[↓GQ,GX,Hf,reduceIte,Qn,w,o,this];exact fa _ m.symm
 |succ f ih=>
  intro j z g hf m y h9 w o;refine Af PP.eq_1 ?_;unfold DJ at m;have d:j<l.length:=O
  rw[if_pos d]at m;have v:((j:Int)<l.length):=O
  have ma:=nJ (j:=j);have ta:((j:Int)<=l.length):=O
  have p:=wJ (j:=j) O;have ia:=DL d;have hq:=Ix u d;generalize c:Bx l j=r at m ia hq;obtain⟨q,k⟩:=r;have b:(Am l)[j]?=some (.agg [.str q,.int .u8 k]):=ia;have hF:=aLv (nl:=nl) (t:=[]) (l:=l.take j) (q:=q) (k:=k) Xc hq;generalize Io (q,k) (l.take j)=e' at m hF;obtain⟨ja,ga,n⟩:=z;simp only at y h9 w o;simp only[↓GQ,Hb,simprocAttr,y,h9,w,o,v,ma,ta,Qp,b,Ay,N0,Lh,Ab a,hF,Aj,Ar,As,Ql,Qw,QD,QS,QT,QR];refine AJ ?_;simp only[↓GQ,GX,Hx,simprocAttr,Lh,QR];refine aD (λh=>?_) (λh=>?_)
  ·rw[if_neg Xp]at m;simp only[↓GQ,GX,Hx,simprocAttr,o,Lh,QR,p];exact ih (j+1) _ _ O m y h9 w rfl
  ·rw[if_pos h]at m;simp only[↓GQ,GX,Hx,simprocAttr,Lh,QR];exact x _ (m▸h) (by rw[←m];rfl)
open Classical in
def gY:List D->Option D
 |[.slice _ _ xs]=>if xs=Am (Bc xs)∧xs.length<=1000000∧BR (Bc xs)then some (.int .i64 (B4 (Bc xs)))else none
 |_=>none
open Classical in
def Ly{nl:Bool}{t:Id}{l:List Rl}(hl:l.length<=1000000)(o:BR l):gY [.slice nl t (Am l)]=some (.int .i64 (B4 l)):=by
 have h:Am l=Am (Bc (Am l))∧(Am l).length<=1000000∧BR (Bc (Am l)):=by rw[AS,Ay];exact⟨rfl,hl,o⟩
 show(if _ then _ else _)=_;rw[if_pos h,AS]
open Classical in
theorem NI{ds:List D}{r:D}(h:gY ds=some r):∃nl t l,ds=[.slice nl t (Am l)]∧l.length<=1000000∧BR l∧r= .int .i64 (B4 l):=by
 unfold gY at h;split at h
 ·rename_i nl t xs;split at h
  ·rename_i g;obtain⟨u,q,d⟩:=g;simp only[Qi]at h;subst h;refine⟨nl,t,Bc xs,XK,?_,d,rfl⟩;rw[u,Ay]at q;exact q
  ·cases h
 ·cases h
def cF:Kq gY 121:=by
 obtain⟨S,v,hl⟩:=A4 (Aa aVq Ae);have a:=hl 192 _ rfl;clear hl;refine AB (S:=S) v (Al func121:Fn Qo 121 25 aOI [.t 2]) (λds r h=>?_) (λds r h=>?_)
 ·grind [NI]
 ·obtain⟨nl,t,l,rfl,hl,o,rfl⟩:=NI h;unfold aOI B4;by_cases x:4<l.length
  ·have w:((4:Int)<l.length):=by omega
   simp only[↓GQ,GT,simprocAttr,Ay,w,x]
  ·have w:¬((4:Int)<l.length):=by omega
   simp only[↓GQ,GX,Hf,simprocAttr,Ay,w];refine aJk (l:=l) (nl:=nl) (t:=t) (e:=DJ l l.length 0) a O o (λz u q=>?_) (λz u=>?_) l.length 0 _ _ O rfl rfl rfl rfl rfl
   ·simp only[↓GQ,GT,q];rw[if_neg x]
   ·simp only[↓GQ,GT,reduceIte,Qn,u];rw[if_neg x]
def WN{k:IntKind}{a b:Int}:AQ .andNot (.int k a) (.int k b)=some (.int k (bits .andNot k a b)):=Xm
def MQ(a c:Nat):Bool:=Nat.beq (Zt c (255-a)) 0
def aUO{x:Nat}(h:x<256):IntKind.u8.wrap (x:Int)=x:=by
 simp only[IntKind.wrap,IntKind.signed,IntKind.bits,Zo,QQ,if_false];omega
def SM{a c:Nat}(z:a<256)(g:c<256):bits .andNot .u8 (c:Int) (a:Int)=((Zt c (255-a):Nat):Int):=by
 have u:(BitVec.ofInt 8 (c:Int)).toNat=c:=by rw[BitVec.toNat_ofInt];omega
 have q:(BitVec.ofInt 8 (a:Int)).toNat=a:=by rw[BitVec.toNat_ofInt];omega
 have d:(BitVec.ofInt 8 (c:Int)&&& ~~~ BitVec.ofInt 8 (a:Int)).toNat=Zt c (255-a):=by
  rw[BitVec.toNat_and,BitVec.toNat_not,u,q];rfl
 have o:Zt c (255-a)<=c:=Nat.and_le_left;show IntKind.u8.wrap ((BitVec.ofInt 8 (c:Int)&&& ~~~ BitVec.ofInt 8 (a:Int)).toNat:Int)=_;rw[d];generalize Zt c (255-a)=x at o;exact aUO O
structure RI (fr r:Id) (m0 m:GV) (l:List Bs) (j:Nat):Prop where
 row:∀i,i<l.length->m r i=some (.str (if i<j then l.getD i []else []))
 out:∀i o,¬fr<:+i->m i o=m0 i o
def RI.put{fr r:Id}{m0 m:GV}{l:List Bs}{j k o:Nat}{ds:List D}(h:RI fr r m0 m l j)(s:(k::fr)≠r):RI fr r m0 (m.put (k::fr) o ds) l j:=by
 refine⟨λi hi=>?_,λi o' c=>?_⟩
 ·rw[aB (λe=>s e.symm)];exact h.row i hi
 ·rw[aB (λe=>c Yv)];exact h.out i o' c
def RI.fill{fr r:Id}{m0 m:GV}{l:List Bs}{j:Nat}(h:RI fr r m0 m l j)(c:fr<:+r):RI fr r m0 (m.put r j [.str (l.getD j [])]) l (j+1):=by
 refine⟨λi hi=>?_,λi o' v=>?_⟩
 ·rw[Aj];by_cases e:i=j
  ·simp_all
  ·rw[if_neg Xc,h.row i hi];by_cases q:i<j
   ·rw[if_pos q,if_pos O]
   ·rw[if_neg q,if_neg O]
 ·rw[aB (λe=>v (by rw[e];exact c))];exact h.out i o' v
theorem RI.start{fr:Id}{m:GV}{l:List Bs}{k n:Nat}(c:n=l.length):RI fr (k::fr) m (m.put (k::fr) 0 (Zd n (.str []))) l 0:=by
 subst c;refine⟨λi hi=>?_,λi o c=>aB (λe=>c Yv)⟩;rw[Aj,if_pos ⟨rfl,O,by simp;exact hi⟩,if_neg O];simp[hi]
def RI.fin{fr r:Id}{m0 m:GV}{l:List Bs}(h:RI fr r m0 m l l.length)(hf:∀i o,fr<:+i->m0 i o=none):
  (∀(j:Nat) x,(l.map D.str)[j]?=some x->m r j=some x)∧∀i o x,m0 i o=some x->m i o=some x:=by
 refine⟨λj x f=>?_,λi o x f=>?_⟩
 ·have w:j<l.length:=by have:=(Qt.1 f).1;simpa using this
  rw[h.row j w,if_pos w];simp[w]at f;simp[w,f]
 ·rw[h.out i o (λg=>by rw[hf i o g]at f;cases f)];exact f
def U9(F:List D->Option (List Bs)):HA where
 rd:=λ_ _=>[]
 ex:=λds _ _=>(F ds).map λl=>(.slice false [] (l.map .str),[])
def pE{S:GR}{P:Program}{f:FuncId}{N:Nat}{c:DC}{rs:List RV}{F:List D->Option (List Bs)}(v:GR.ok P S)(j:Fn P f N c rs)
  (n:∀ds l m fr,F ds=some l->(∀i o,fr<:+i->m i o=none)->ds.length<=N∧c.wp S fr (DV rs λd m'=>∃i,d= .row i l.length∧fr<:+i∧RI fr i m m' l l.length) ⟨Bz ds,m,0⟩):(U9 F).ok P f:=by
 refine aIK v j (λ_ _ _ _ _=>rfl) (λds m fr r u w na=>?_);simp only[U9,Qk,Qq]at w;obtain⟨l,hl,rfl,rfl⟩:=w;obtain⟨y,q⟩:=n ds l m fr hl na;refine⟨y,U,l.map .str,rfl,?_,?_⟩
 ·intro x p;obtain⟨s,_,rfl⟩:=QW.1 p;exact⟨rfl,rfl⟩
 ·refine Ri q (λe k h=>?_);obtain⟨a,d,z,i,b,g,hR⟩:=h;exact⟨a,d,z,i,by simpa using b,g,(hR.fin na).1,λi o x p=>(hR.fin na).2 i o x p⟩
open Classical in
def aHs:List D->Option (List Bs)
 |[.slice _ _ xs]=>if xs=Am (Bc xs)∧xs.length<=1000000 then some ((Bc xs).map (·.1))else none
 |_=>none
open Classical in
theorem aLO{nl:Bool}{t:Id}{l:List Rl}(hl:l.length<=1000000):aHs [.slice nl t (Am l)]=some (l.map (·.1)):=by
 have h:Am l=Am (Bc (Am l))∧(Am l).length<=1000000:=by rw[AS,Ay];exact⟨rfl,hl⟩
 show(if _ then _ else _)=_;rw[if_pos h,AS]
open Classical in
def aHr{ds:List D}{r:List Bs}(h:aHs ds=some r):∃nl t l,ds=[.slice nl t (Am l)]∧l.length<=1000000∧r=l.map (·.1):=by
 unfold aHs at h;split at h
 ·rename_i nl t xs;split at h
  ·rename_i g;obtain⟨u,q⟩:=g;simp only[Qi]at h;subst h;refine⟨nl,t,Bc xs,XK,?_,rfl⟩;rw[u,Ay]at q;exact q
  ·cases h
 ·cases h
def aJo{S:GR}{fr:Id}{l:List Rl}{nl:Bool}{t:Id}{m0:GV}{k:Nat}{Q:Ex->St->Prop}(i:l.length<=1000000)
  (b:∀z,z.s 3= .row (k::fr) l.length->RI fr (k::fr) m0 z.m (l.map (·.1)) l.length->Q (.exit 0) z):
  ∀(f j:Nat) z g,l.length=j+f->k<z.c->z.s 3= .row (k::fr) l.length->z.s 9= .slice nl t (Am l)->z.s 10= .int .i64 (l.length:Int)->z.s 11= .int .i64 (j:Int)->RI fr (k::fr) m0 z.m (l.map (·.1)) j->AK S fr PT Q z g:=by
 intro f;induction f with
 |zero=>
  intro j z g hf p d h9 w o I;refine Af PT.eq_1 ?_;have:¬((j:Int)<l.length):=O
  simp only[↓GQ,GX,Hf,reduceIte,Qn,w,o,this];exact b _ d X9
 |succ f ih=>
  intro j z g hf p d h9 w o I;refine Af PT.eq_1 ?_;have e:j<l.length:=O
  have v:((j:Int)<l.length):=O
  have q:=nJ (j:=j);have hw:=wJ (j:=j) O;have ia:(Am l)[j]?=some (.agg [.str (Bx l j).1,.int .u8 (Bx l j).2]):=DL e;have y:(l.map (·.1)).getD j []=(Bx l j).1:=by simp[Bx,Qj e]
  generalize Bx l j=r at ia y;have ta:((z.c+1+3)::fr=k::fr)=False:=eq_false Xc;have na:(k::fr=(z.c+1+3)::fr)=False:=eq_false Xc;have x:=I.row j (by simpa using e);rw[if_neg O]at x;obtain⟨u,a,n⟩:=z;simp only at d h9 w o p ta na x I;simp only[↓GQ,Hb,reduceIte,Qm,Qn,d,h9,w,o,v,q,hw,Qp,ia,na,x,Qz,false_and,Aj,Ar,As,QX,Ql,Qw,QD,QS,QT];refine ih (j+1) _ _ O Xb d h9 w rfl ?_;rw[←y];exact((I.put Xc).put Xc).fill (QK _ _)
def aVU:(U9 aHs).ok Qo 345:=by
 refine pE (S:=λ_=>none) AO (Al func345:Fn Qo 345 23 aOV [.t 2]) (λds r m fr h na=>?_);obtain⟨nl,t,l,rfl,hl,rfl⟩:=aHr h;refine⟨U,?_⟩;have w:((0:Int)<=(l.length:Int)):=O
 have c:((l.length:Int)*(((16:Nat):Int)+1)<=140737488355328)=True:=eq_true O;unfold aOV;simp only[↓GQ,GX,Hx,reduceIte,Qm,Qn,w,c,Ay,Qp,ZV,Hs,and_self];refine aJo (l:=l) (nl:=nl) (t:=t) (m0:=m) (k:=3) hl (λz u q=>?_) l.length 0 _ _ O Xb rfl rfl rfl rfl ?_
 ·simp only[↓GQ,GX,reduceIte,Qm,Qn,u,Qu];exact⟨_,rfl,QK _ _,q⟩
 ·exact RI.start U
def LO(s:Bs)(l:List Bs):Nat->Nat->Int->Int->Int
 |0,_,b,_=>b
 |f+1,j,b,n=>if n<((l.getD j []).length:Int)∧AR s (l.getD j [])=true then LO s l f (j+1) j (l.getD j []).length else LO s l f (j+1) b n
def E_(s:Bs)(l:List Bs):Int:=LO s l l.length 0 (-1) (-1)
def aJp{S:GR}{ns:Id}{s:Bs}{l:List Bs}{nl:Bool}{t:Id}{Q:Ex->St->Prop}{e:Int}(a:S 212=some (Ac aAz))(i:l.length<=1000000)
  (m:∀z,z.s 5= .int .i64 e->Q (.exit 0) z):
  ∀(f j:Nat)(b n:Int) z g,l.length=j+f->LO s l f j b n=e->z.s 0= .str s->z.s 5= .int .i64 b->z.s 6= .int .i64 n->z.s 9= .slice nl t (l.map .str)->z.s 10= .int .i64 (l.length:Int)->z.s 11= .int .i64 (j:Int)->AK S ns PU Q z g:=by
 intro f;induction f with
 |zero=>
  intro j b n z g hf q y h5 h6 h9 w o;refine Af PU.eq_1 ?_;have:¬((j:Int)<l.length):=O
  simp only[↓GQ,GX,Hf,reduceIte,Qn,w,o,this];exact m _ (by rw[←q];exact h5)
 |succ f ih=>
  intro j b n z g hf q y h5 h6 h9 w o;refine Af PU.eq_1 ?_;unfold LO at q;have d:j<l.length:=O
  have v:((j:Int)<l.length):=O
  have u:=nJ (j:=j);have x:=wJ (j:=j) O;have ia:(l.map D.str)[j]?=some (.str (l.getD j [])):=by simp[d]
  generalize l.getD j []=p at ia q;have k:aAz [.str s,.str p]=some (.bool (AR s p)):=rfl;obtain⟨ja,ga,r⟩:=z;simp only at y h5 h6 h9 w o;by_cases c:n<(p.length:Int)
  ·cases hp:AR s p with
   |true=>
    rw[if_pos ⟨c,hp⟩]at q;simp only[↓GQ,GT,simprocAttr,y,h9,w,o,h6,v,u,x,Qp,ia,Ab a,k,Hs,Q_,c,hp];exact ih (j+1) _ _ _ _ O q y rfl rfl h9 w rfl
   |false=>
    rw[if_neg (by rw[hp];simp)]at q;simp only[↓GQ,GT,simprocAttr,y,h9,w,o,h6,v,u,x,Qp,ia,Ab a,k,Hs,Q_,c,hp];exact ih (j+1) _ _ _ _ O q y h5 h6 h9 w rfl
  ·rw[if_neg (λh=>c h.1)]at q;simp only[↓GQ,GT,simprocAttr,h9,w,o,h6,v,u,x,Qp,ia,Hs,Q_,c];exact ih (j+1) _ _ _ _ O q y h5 h6 h9 w rfl
def aAB:List D->Option D
 |[.str s,.slice _ _ xs]=>(GB xs).bind λl=>if l.length<=1000000 then some (.int .i64 (E_ s l))else none
 |_=>none
def aLP{s:Bs}{nl:Bool}{t:Id}{l:List Bs}(hl:l.length<=1000000):aAB [.str s,.slice nl t (l.map .str)]=some (.int .i64 (E_ s l)):=by
 grind [aAB,GA]
def aVV:Kq aAB 344:=by
 obtain⟨S,v,hl⟩:=A4 (Aa aMF Ae);have a:=hl 212 _ rfl;clear hl;refine AB (S:=S) v (Al func344:Fn Qo 344 30 aOW [.t 4]) (λds r h=>?_) (λds r h=>?_)
 ·unfold aAB at h;split at h
  ·simp
  ·cases h
 ·unfold aAB at h;split at h
  ·rename_i s nl t xs;rw[QB]at h;obtain⟨l,g,h⟩:=h;obtain rfl:=Fh g;split at h
   ·rename_i hl;simp only[Qi]at h;subst h;unfold aOW;simp only[↓GQ,GX,simprocAttr,Qu];refine aJp (s:=s) (l:=l) (nl:=nl) (t:=t) (e:=E_ s l) a hl (λz u=>?_) l.length 0 _ _ _ _ O rfl rfl rfl rfl rfl rfl rfl;simp only[↓GQ,GT,simprocAttr,u]
   ·cases h
  ·cases h
def Cy(l:List Rl)(s:Bs):Int:=if E_ s (l.map (·.1))<0 then 0 else(Bx l (E_ s (l.map (·.1))).toNat).2
def R2(s:Bs)(l:List Bs):∀(f j:Nat)(b n:Int),l.length=j+f->b<l.length->LO s l f j b n<l.length
 |0,j,b,n,hf,hb=>by simpa[LO]using hb
 |f+1,j,b,n,hf,hb=>by
  unfold LO;split
  ·exact R2 s l f (j+1) _ _ O O
  ·exact R2 s l f (j+1) _ _ O hb
def R3(s:Bs)(l:List Bs):E_ s l<l.length:=R2 s l _ _ _ _ O O
open Classical in
def F95:List D->Option D
 |[.slice _ _ xs,.str s]=>if xs=Am (Bc xs)∧xs.length<=1000000 then some (.int .u8 (Cy (Bc xs) s))else none
 |_=>none
open Classical in
def nH{nl:Bool}{t:Id}{l:List Rl}{s:Bs}(hl:l.length<=1000000):F95 [.slice nl t (Am l),.str s]=some (.int .u8 (Cy l s)):=by
 have h:Am l=Am (Bc (Am l))∧(Am l).length<=1000000:=by rw[AS,Ay];exact⟨rfl,hl⟩
 show(if _ then _ else _)=_;rw[if_pos h,AS]
open Classical in
theorem uA{ds:List D}{r:D}(h:F95 ds=some r):∃nl t l s,ds=[.slice nl t (Am l),.str s]∧l.length<=1000000∧r= .int .u8 (Cy l s):=by
 unfold F95 at h;split at h
 ·rename_i nl t xs s;split at h
  ·rename_i g;obtain⟨u,q⟩:=g;simp only[Qi]at h;subst h;refine⟨nl,t,Bc xs,s,XK,?_,rfl⟩;rw[u,Ay]at q;exact q
  ·cases h
 ·cases h
def aQ9:Kq F95 294:=by
 obtain⟨S,hS,hl⟩:=A4 (Aa aVU (Aa aVV Ae));have c:=hl 345 _ rfl;have d:=hl 344 _ rfl;clear hl;refine AB (S:=S) hS (Al func294:Fn Qo 294 17 aXZ [.t 4]) (λds r h=>?_) (λds r h=>?_)
 ·grind [uA]
 ·obtain⟨nl,t,l,s,rfl,hl,rfl⟩:=uA h;have b:∀m fr,(U9 aHs).ex [.slice nl t (Am l)] m fr=some (.slice false [] ((l.map (·.1)).map .str),[]):=by
   grind [U9,aLO]
  have a:aAB [.str s,.slice false [] ((l.map (·.1)).map .str)]=some (.int .i64 (E_ s (l.map (·.1)))):=aLP Xo;have p:((l.map (·.1)).map D.str).all D.calm=true:=Ya
  have n:((l.map (·.1)).map D.str).map D.un=(l.map (·.1)).map D.str:=by rw[QL];exact QC λ_ _=>rfl
  unfold aXZ Cy;have v:=R3 s (l.map (·.1));rw[Qu]at v;generalize E_ s (l.map (·.1))=i at a v;by_cases hi:i<0
  ·simp only[↓GQ,GT,simprocAttr,A7 c,b,Ab d,a,hi]
  ·obtain⟨j,rfl⟩:=Zc (show 0<=i by omega);have w:j<l.length:=by omega
   have q:=nJ (j:=j);have ia:(Am l)[j]?=some (.agg [.str (Bx l j).1,.int .u8 (Bx l j).2]):=DL w;simp only[↓GQ,GT,simprocAttr,A7 c,b,Ab d,a,hi,q,Qp,ia,Hs,and_self,QR,Zk,Q_]
def Nw(l:List Rl)(s:Bs)(c:Int):Bool:=MQ (Cy l s).toNat c.toNat
def Fd(l:List Rl):Prop:=∀r∈l,0<=r.2∧r.2<256
open Classical in
def aHp:List D->Option D
 |[.slice _ _ xs,.str s,.int .u8 k]=>if xs=Am (Bc xs)∧xs.length<=1000000∧Fd (Bc xs)∧BR (Bc xs)∧s.length<=1000000∧0<=k∧k<256 then some (.bool (Nw (Bc xs) s k))else none
 |_=>none
open Classical in
def aLK{nl:Bool}{t:Id}{l:List Rl}{s:Bs}{k:Int}(hl:l.length<=1000000)(g:Fd l)(o:BR l)(i:s.length<=1000000)(y:0<=k)(u:k<256):aHp [.slice nl t (Am l),.str s,.int .u8 k]=some (.bool (Nw l s k)):=by
 have h:Am l=Am (Bc (Am l))∧(Am l).length<=1000000∧Fd (Bc (Am l))∧BR (Bc (Am l))∧s.length<=1000000∧0<=k∧k<256:=by rw[AS,Ay];exact⟨rfl,hl,g,o,i,y,u⟩
 show(if _ then _ else _)=_;rw[if_pos h,AS]
open Classical in
theorem hU{ds:List D}{r:D}(h:aHp ds=some r):∃nl t l s k,ds=[.slice nl t (Am l),.str s,.int .u8 k]∧l.length<=1000000∧Fd l∧BR l∧s.length<=1000000∧0<=k∧k<256∧r= .bool (Nw l s k):=by
 unfold aHp at h;split at h
 ·rename_i nl t xs s k;split at h
  ·rename_i g;obtain⟨u,q,d,o,y,x,b⟩:=g;simp only[Qi]at h;subst h;refine⟨nl,t,Bc xs,s,k,XK,?_,d,o,y,x,b,rfl⟩;rw[u,Ay]at q;exact q
  ·cases h
 ·cases h
def P9{l:List Rl}{s:Bs}(g:Fd l):0<=Cy l s∧Cy l s<256:=by
 unfold Cy;have v:=R3 s (l.map (·.1));rw[Qu]at v;split
 ·omega
 ·rename_i h;have w:(E_ s (l.map (·.1))).toNat<l.length:=by omega
  have:Bx l (E_ s (l.map (·.1))).toNat=l[(E_ s (l.map (·.1))).toNat]:=by simp[Bx,Qj w]
  rw[this];exact g _ (Zf w)
def aVM:Kq aHp 293:=by
 obtain⟨S,v,hl⟩:=A4 (Aa aQ9 Ae);have qa:=hl 294 _ rfl;clear hl;refine AB (S:=S) v (Al func293:Fn Qo 293 13 aOH [.t 6]) (λds r h=>?_) (λds r h=>?_)
 ·grind [hU]
 ·obtain⟨nl,t,l,s,k,rfl,hl,g,o,hs,n,u,rfl⟩:=hU h;have p:=nH (nl:=nl) (t:=[]) (s:=s) hl;have i:=P9 (s:=s) g;have ka:(Am l).all D.calm=true:=by rw[Qv];intro x f;obtain⟨y,_,rfl⟩:=QW.1 f;rfl
  have da:(Am l).map D.un=Am l:=Y6
  unfold aOH Nw;generalize Cy l s=a at p i;obtain⟨a,rfl⟩:=Zc i.1;obtain⟨k,rfl⟩:=Zc n;have w:=SM (a:=a) (c:=k) O O;have j:decide (((Zt k (255-a):Nat):Int)=0)=MQ a k:=by
   unfold MQ;generalize Zt k (255-a)=x;cases x with
   |zero=>rfl
   |succ x=>simp[Nat.beq];omega
  simp only[↓GQ,GT,simprocAttr,Ab qa,p,WN,w,j,Qp]
def CY{m:GV}{e:Nat}{nl:Bool}{t:Id}{xs:List D}:I9 m e (.slice nl t xs)=(nl=true∨(m t 0=some (.tok (e+1))∧t≠[])):=rfl
def Cx{e:Nat}{fr t:Id}{xs:List D}:Be e fr (.slice false t xs)=[(t,0,[.tok 0]),(fr,0,[.tok (e+1)])]:=rfl
def DA(l:List Rl):(Am l).all D.calm=true:=Ya
def Fk(l:List Rl):(Am l).map D.un=Am l:=Y6
def Vr(a b:List Rl)(r:Rl):Bool:=MQ (Cy b r.1).toNat (Cy a r.1).toNat
def DQ(a b l:List Rl):Nat->Nat->Bool
 |0,_=>true
 |f+1,j=>if Vr a b (Bx l j)=true then DQ a b l f (j+1)else false
theorem Fz(a b l:List Rl):∀(f j:Nat),l.length=j+f->DQ a b l f j=(l.drop j).all (Vr a b)
 |0,j,h=>by rw[List.drop_of_length_le O];rfl
 |f+1,j,h=>by
  have w:j<l.length:=O
  have e:Bx l j=l[j]:=by simp[Bx,Qj w]
  unfold DQ;rw[Fz a b l f (j+1) O,Q7 w,ZO,e];cases Vr a b l[j]<;>simp
def CD(a b:List Rl):Bool:=decide (B4 a=0)&&decide (B4 b=0)&&(a++b).all (Vr a b)
open Classical in
def aHz:List D->Option D
 |[.slice _ _ xs,.slice _ _ ys]=>if(xs=Am (Bc xs)∧xs.length<=1000000∧BR (Bc xs)∧Fd (Bc xs))∧ys=Am (Bc ys)∧ys.length<=1000000∧BR (Bc ys)∧Fd (Bc ys)then some (.bool (CD (Bc xs) (Bc ys)))else none
 |_=>none
open Classical in
def uH{na nb:Bool}{ta tb:Id}{a b:List Rl}(v:a.length<=1000000)(lb:b.length<=1000000)(c:BR a)(q:BR b)(o:Fd a)(t:Fd b):aHz [.slice na ta (Am a),.slice nb tb (Am b)]=some (.bool (CD a b)):=by
 have h:(Am a=Am (Bc (Am a))∧(Am a).length<=1000000∧BR (Bc (Am a))∧Fd (Bc (Am a)))∧Am b=Am (Bc (Am b))∧(Am b).length<=1000000∧BR (Bc (Am b))∧Fd (Bc (Am b)):=by
  grind [AS,Ay]
 show(if _ then _ else _)=_;rw[if_pos h,AS,AS]
open Classical in
theorem NJ{ds:List D}{r:D}(h:aHz ds=some r):∃na ta a nb tb b,ds=[.slice na ta (Am a),.slice nb tb (Am b)]∧a.length<=1000000∧b.length<=1000000∧BR a∧BR b∧Fd a∧Fd b∧r= .bool (CD a b):=by
 unfold aHz at h;split at h
 ·rename_i na ta xs nb tb ys;split at h
  ·rename_i g;obtain⟨⟨u,q,d,x⟩,k,i,p,w⟩:=g;simp only[Qi]at h;subst h;refine⟨na,ta,Bc xs,nb,tb,Bc ys,by rw[←u,←k],?_,?_,d,p,x,w,rfl⟩
   ·rw[u,Ay]at q;exact q
   ·rw[k,Ay]at i;exact i
  ·cases h
 ·cases h
def aOp:=y0 f273 [] []
def rD:=y0 f274 [] []
def aNi:Fn Qo 274 12 rD [.t 4]:=Al func274
def PF:=y1 f275 3 [] []
def rC:=y0 f275 [] [(3,PF)]
def aNh:Fn Qo 275 23 rC [.t 4]:=Al func275
def rH:=y0 f207 [(3,[(5,1)])] []
def aNm:Fn Qo 207 52 rH [.t 4]:=Al func207
def aPM:=y0 f142 [] []
def P5:=y1 f145 3 [] []
def aPJ:=y0 f145 [] [(3,P5)]
def aAy:List D->Option D
 |[.int .i64 n,.int .i64 lo,.int .i64 hi]=>some (.bool (decide (lo<=n∧n<=hi)))
 |_=>none
def aMC:Kq aAy 273:=by
 refine AB (S:=λ_=>none) AO (Al func273:Fn Qo 273 15 aOp [.t 6]) (λds r h=>?_) (λds r h=>?_)
 ·unfold aAy at h;split at h
  ·simp
  ·cases h
 ·unfold aAy at h;split at h
  ·rename_i n lo hi;simp only[Qi]at h;subst h;unfold aOp;simp only[↓GQ,GX,simprocAttr]
   repeat' (first|(refine aD (λh=>?_) (λh=>?_)<;>try (exfalso;omega))|(simp only[↓GQ,GT,simprocAttr,h,and_self,false_and]))
   all_goals (simp_all<;>omega)
  ·cases h
def aLz:List D->Option D
 |[.agg [.int .i64 a,.bool b,.int .i64 c,.slice nl t xs],.agg [.int .i64 q,.bool b2]]=>some (.int .i64 (if a=0 then q else a))
 |_=>none
def aVy:Kq aLz 274:=by
 refine AB (S:=λ_=>none) AO aNi (λds r h=>?_) (λds r h=>?_)
 ·unfold aLz at h;split at h
  ·simp
  ·cases h
 ·unfold aLz at h;split at h
  ·rename_i a b c nl t xs q b2;simp only[Qi]at h;subst h;unfold rD;simp only[↓GQ,Hb,simprocAttr,Aj,Qx,QG]
   repeat' (first|(refine aD (λh=>?_) (λh=>?_)<;>try (exfalso;omega))|(simp only[↓GQ,Hb,simprocAttr,h,Aj,Qx,QG,Q0]))
   all_goals simp_all
  ·cases h
def aLy:List D->Option D
 |[.slice nl t [],.fn g caps]=>some (.bool true)
 |_=>none
def aVx:Kq aLy 275:=by
 refine AB (S:=λ_=>none) AO aNh (λds r h=>?_) (λds r h=>?_)
 ·unfold aLy at h;split at h
  ·simp
  ·cases h
 ·unfold aLy at h;split at h
  ·rename_i nl t g caps;simp only[Qi]at h;subst h;unfold rC;simp only[↓GQ,GX,simprocAttr,QV];refine Af PF.eq_1 ?_;simp only[↓GQ,GT,simprocAttr,and_self,Zy,Zp]
  ·cases h
def aLU:List D->Option D
 |[.agg [.int .i64 0,.bool b,.int .i64 0,.slice nl t []],.agg [.int .i64 q,.bool b2]]=>some (.int .i64 (if 1<=q∧q<=6 then 0 else 2))
 |_=>none
def aVZ:Kq aLU 207:=by
 obtain⟨S,v,hl⟩:=A4 (Aa aMC (Aa aVy (Aa aVx Ae)));have a:=hl 273 _ rfl;have i:=hl 274 _ rfl;have e:=hl 275 _ rfl;clear hl;refine AB (S:=S) v aNm (λds r h=>?_) (λds r h=>?_)
 ·unfold aLU at h;split at h
  ·simp
  ·cases h
 ·unfold aLU at h;split at h
  ·rename_i b nl t q b2;simp only[Qi]at h;subst h;unfold rH;have c:∀n lo hi,aAy [.int .i64 n,.int .i64 lo,.int .i64 hi]=some (.bool (decide (lo<=n∧n<=hi))):=λ_ _ _=>rfl
   have d:aLz [.agg [.int .i64 0,.bool b,.int .i64 0,.slice nl [] []],.agg [.int .i64 q,.bool b2]]=some (.int .i64 q):=rfl;have f:∀nl t g caps,aLy [.slice nl t [],.fn g caps]=some (.bool true):=λ_ _ _ _=>rfl
   by_cases z:1<=q∧q<=6
   ·have j:¬(q<0):=by omega
    simp only[↓GQ,Hb,simprocAttr,Aj,Ar,As,Ql,Qw,Qx,QG,Q0,and_false,Ab a,c,Ab i,d,Ab e,f,z,j,Zp];refine AJ ?_;simp only[↓GQ,Hb,simprocAttr,Aj,Ql,Qx,QG,and_false,z,Zy,Zp]
   ·simp only[↓GQ,Hb,simprocAttr,Aj,Qx,Q0,Ab a,c,z]
  ·cases h
def aOM:=y0 f139 [] []
def aPG:=y0 f80 [] []
def aPH:=y0 f148 [] []
abbrev Mt:=Bs×Int×Bool
def HI(m:Mt):D:= .agg [.str m.1,.int .i64 m.2.1,.bool m.2.2]
def Ax(l:List Mt):List D:=l.map HI
def mtT:D->Mt
 | .agg [.str p,.int .i64 q,.bool b]=>(p,q,b)
 |_=>([],0,false)
def B7(xs:List D):List Mt:=xs.map mtT
def Bd(l:List Mt):B7 (Ax l)=l:=by
 simp only[B7,Ax,QL]
 conv=>rhs;rw[←ZG l]
 exact QC λr _=>rfl
theorem AC(l:List Mt):(Ax l).length=l.length:=Qu ..
def aB5(l:List Mt):(Ax l).all (qZ (some 3))=true:=by
 rw[Qv];intro x f;obtain⟨r,_,rfl⟩:=QW.1 f;rfl
def AU(l:List Mt)(j:Nat):Mt:=l.getD j ([],0,false)
def C4{l:List Mt}{j:Nat}(h:j<l.length):(Ax l)[j]?=some (HI (AU l j)):=by
 grind [Ax,AU]
def Cp(p:Bs)(q:Int):Int:=if AV p≠0 then AV p else if 1<=q∧q<=6 then 0 else 2
def CH(l:List Mt)(p:Bs):Int:=BP (l.map λm=>decide (m.1=p))
def xN{l:List Mt}{nl:Bool}{t:Id}(hl:l.length<=1000000){q:Bs}(m:GV)(fr i:Id)(a:m i 0=some (.str q)):
  (FO 209 (some 3) aG5).ex [.slice nl t (Ax l),.fn 209 [.ptr i 0]] m fr=some (.int .i64 (CH l q),[]):=by
 have e:(Ax l).map (aG5 (.str q))=(l.map λr=>decide (r.1=q)).map λb=>some (.bool b):=by
  simp only[Ax,QL];exact QC λr _=>rfl
 simp only[FO,AC,hl,aB5,and_self,if_true,FQ,a,Qw,e,DE,QN];rfl
def Ei(s:Bs)(l:List Bs):Bool:=l.any λq=>AR s q||AR q s
def aE7{l:List Bs}{nl:Bool}{t:Id}(hl:l.length<=1000000){s:Bs}(m:GV)(fr i:Id)(a:m i 0=some (.str s)):
  (iD 211 none aAr).ex [.slice nl t (l.map .str),.fn 211 [.ptr i 0]] m fr=some (.bool (Ei s l),[]):=by
 have e:(l.map D.str).map (aAr (.str s))=(l.map λq=>AR s q||AR q s).map λb=>some (.bool b):=by
  simp only[QL];exact QC λr _=>rfl
 have z:(l.map D.str).all (qZ none)=true:=by
  rw[Qv];intro x f;obtain⟨r,_,rfl⟩:=QW.1 f;rfl
 simp only[iD,Qu,hl,z,and_self,if_true,FQ,a,Qw,e,DE,QN];simp only[Ei,ZS];rfl
def aMh:List D->Option D
 |[.agg [.str p,.int .i64 q,.bool b]]=>if p.length<=1000000 then some (.int .i64 (Cp p q))else none
 |_=>none
def aWj:Kq aMh 142:=by
 obtain⟨S,v,hl⟩:=A4 (Aa pV (Aa aVZ Ae));have o:=hl 197 _ rfl;have c:=hl 207 _ rfl;clear hl;refine AB (S:=S) v (Al func142:Fn Qo 142 14 aPM [.t 2]) (λds r h=>?_) (λds r h=>?_)
 ·unfold aMh at h;split at h
  ·simp
  ·cases h
 ·unfold aMh at h;split at h
  ·rename_i p q b;split at h
   ·rename_i g;simp only[Qi]at h;subst h;unfold aPM;have a:iA [.str p]=some (.int .i64 (AV p)):=if_pos g;have w:aLU [.agg [.int .i64 0,.bool false,.int .i64 0,.slice true [] []],.agg [.int .i64 q,.bool b]]=some (.int .i64 (if 1<=q∧q<=6 then 0 else 2)):=rfl;unfold Cp;generalize AV p=e at *;generalize (if 1<=q∧q<=6 then(0:Int)else 2)=j at *;by_cases m:e=0
    ·subst m;simp only[↓GQ,Hb,reduceIte,Qm,Qn,Aj,Ar,As,QX,Ql,Qw,Bw,Ab o,a,Ab c,w,ne_eq]
    ·simp only[↓GQ,Hb,reduceIte,Qm,Qn,Aj,QX,Ab o,a,m,ne_eq]
   ·cases h
  ·cases h
open Classical in
def aMg:List D->Option D
 |[.agg [.slice _ _ xs],.str p]=>if xs=Ax (B7 xs)∧xs.length<=1000000 then some (.int .i64 (CH (B7 xs) p))else none
 |_=>none
open Classical in
def uJ{nl:Bool}{t:Id}{l:List Mt}{p:Bs}(hl:l.length<=1000000):aMg [.agg [.slice nl t (Ax l)],.str p]=some (.int .i64 (CH l p)):=by
 have h:Ax l=Ax (B7 (Ax l))∧(Ax l).length<=1000000:=XO
 show(if _ then _ else _)=_;rw[if_pos h,Bd]
def aMO:Kq aMg 143:=by
 obtain⟨S,v,hl⟩:=A4 (Aa aSE Ae);have a:=hl 208 _ rfl;clear hl;refine AB (S:=S) v (Al func143:Fn Qo 143 9 aPL [.t 4]) (λds r h=>?_) (λds r h=>?_)
 ·unfold aMg at h;split at h
  ·simp
  ·cases h
 ·unfold aMg at h;split at h
  ·rename_i nl t xs p;split at h
   ·rename_i g;obtain⟨f,y⟩:=g;simp only[Qi]at h;subst h;generalize B7 xs=l at f;subst f;rw[AC]at y;unfold aPL;simp only[↓GQ,Hb,reduceIte,Qm,Qn,Aj,QX,Qx,QG,Q0,A7 a,xN (q:=p) y]
   ·cases h
  ·cases h
def aHC:List D->Option D
 |[.str s,.slice _ _ xs]=>(GB xs).bind λl=>if l.length<=1000000 then some (.bool (Ei s l))else none
 |_=>none
def aMf{s:Bs}{nl:Bool}{t:Id}{l:List Bs}(hl:l.length<=1000000):aHC [.str s,.slice nl t (l.map .str)]=some (.bool (Ei s l)):=by
 grind [aHC,GA]
def aWi:Kq aHC 144:=by
 obtain⟨S,v,hl⟩:=A4 (Aa aYA Ae);have a:=hl 210 _ rfl;clear hl;refine AB (S:=S) v (Al func144:Fn Qo 144 8 aPK [.t 4]) (λds r h=>?_) (λds r h=>?_)
 ·unfold aHC at h;split at h
  ·simp
  ·cases h
 ·unfold aHC at h;split at h
  ·rename_i s nl t xs;rw[QB]at h;obtain⟨l,g,h⟩:=h;obtain rfl:=Fh g;split at h
   ·rename_i hl;simp only[Qi]at h;subst h;unfold aPK;simp only[↓GQ,Hb,reduceIte,Qm,Qn,Aj,QX,A7 a,aE7 (s:=s) hl]
   ·cases h
  ·cases h
def RI.base{fr r:Id}{m0 t m:GV}{l:List Bs}{j:Nat}(h:RI fr r t m l j)(e:∀i o,¬fr<:+i->t i o=m0 i o):RI fr r m0 m l j:=
 ⟨h.row,λi o c=>(h.out i o c).trans (e i o c)⟩
open Classical in
def aMe:List D->Option (List Bs)
 |[.agg [.slice _ _ xs]]=>if xs=Ax (B7 xs)∧xs.length<=1000000 then some ((B7 xs).map (·.1))else none
 |_=>none
open Classical in
def aMd{nl:Bool}{t:Id}{l:List Mt}(hl:l.length<=1000000):aMe [.agg [.slice nl t (Ax l)]]=some (l.map (·.1)):=by
 have h:Ax l=Ax (B7 (Ax l))∧(Ax l).length<=1000000:=XO
 show(if _ then _ else _)=_;rw[if_pos h,Bd]
open Classical in
def aHB{ds:List D}{r:List Bs}(h:aMe ds=some r):∃nl t l,ds=[.agg [.slice nl t (Ax l)]]∧l.length<=1000000∧r=l.map (·.1):=by
 unfold aMe at h;split at h
 ·rename_i nl t xs;split at h
  ·rename_i g;obtain⟨u,q⟩:=g;simp only[Qi]at h;subst h;refine⟨nl,t,B7 xs,XK,?_,rfl⟩;rw[u,AC]at q;exact q
  ·cases h
 ·cases h
def aJy{S:GR}{fr:Id}{l:List Mt}{nl:Bool}{t:Id}{m0:GV}{k:Nat}{Q:Ex->St->Prop}(i:l.length<=1000000)
  (b:∀z,z.s 3= .row (k::fr) l.length->RI fr (k::fr) m0 z.m (l.map (·.1)) l.length->Q (.exit 0) z):
  ∀(f j:Nat) z g,l.length=j+f->k<z.c->z.s 3= .row (k::fr) l.length->z.s 11= .slice nl t (Ax l)->z.s 12= .int .i64 (l.length:Int)->z.s 13= .int .i64 (j:Int)->RI fr (k::fr) m0 z.m (l.map (·.1)) j->AK S fr P5 Q z g:=by
 intro f;induction f with
 |zero=>
  intro j z g hf p d o e pa I;refine Af P5.eq_1 ?_;have:¬((j:Int)<l.length):=O
  simp only[↓GQ,GX,Hf,reduceIte,Qn,e,pa,this];exact b _ d X9
 |succ f ih=>
  intro j z g hf p d o e pa I;refine Af P5.eq_1 ?_;have w:j<l.length:=O
  have v:((j:Int)<l.length):=O
  have q:=nJ (j:=j);have hw:=wJ (j:=j) O;have ia:(Ax l)[j]?=some (.agg [.str (AU l j).1,.int .i64 (AU l j).2.1,.bool (AU l j).2.2]):=C4 w;have y:(l.map (·.1)).getD j []=(AU l j).1:=by simp[AU,Qj w]
  generalize AU l j=r at ia y;have ta:((z.c+1+3)::fr=k::fr)=False:=eq_false Xc;have na:(k::fr=(z.c+1+3)::fr)=False:=eq_false Xc;have x:=I.row j XZ;rw[if_neg O]at x;obtain⟨u,a,n⟩:=z;simp only at d o e pa p ta na x I;simp only[↓GQ,Hb,reduceIte,Qm,Qn,d,o,e,pa,v,q,hw,Qp,ia,na,x,Qz,false_and,Aj,Ar,As,QX,Ql,Qw,QD,QS,QT,false_and];refine ih (j+1) _ _ O Xb d o e rfl ?_;rw[←y];exact((I.put Xc).put Xc).fill (QK _ _)
def aWh:(U9 aMe).ok Qo 145:=by
 refine pE (S:=λ_=>none) AO (Al func145:Fn Qo 145 25 aPJ [.t 2]) (λds r m fr h na=>?_);obtain⟨nl,t,l,rfl,hl,rfl⟩:=aHB h;refine⟨U,?_⟩;have w:((0:Int)<=(l.length:Int)):=O
 have s:((l.length:Int)*(((16:Nat):Int)+1)<=140737488355328)=True:=eq_true O;unfold aPJ;simp only[↓GQ,Hb,reduceIte,Qm,Qn,w,s,AC,Qp,ZV,Aj,QX,Qx,false_and];refine aJy (l:=l) (nl:=nl) (t:=t) (m0:=m) (k:=5) hl (λz u q=>?_) l.length 0 _ _ O Xb rfl rfl rfl rfl ?_
 ·simp only[↓GQ,GX,reduceIte,Qm,Qn,u,Qu];exact⟨_,rfl,QK _ _,q⟩
 ·exact RI.base (RI.start (by simp[])) (λi o c=>aB (λe=>c Yv))
def aN7:=y0 f276 [] []
def aNN:=y0 f360 [] []
def aOu:=y0 f319 [] []
def aPm:=y0 f253 [(1,[(1,0)])] []
def aOt:=y0 f320 [] []
def aNM:=y0 f362 [] []
def aOs:=y0 f321 [(5,[(2,4),(2,6),(6,1),(6,2)]),(7,[(4,2)])] []
def aNL:=y0 f363 [] []
def VZ:=y1 f324 4 [] []
def aOo:=y0 f324 [(1,[(5,1)])] [(4,VZ)]
def eR:=y0 f364 [] []
def aNf:Fn Qo 364 8 eR [.t 2]:=Al func364
def VV:=y1 f365 5 [(7,[(6,2),(6,8),(9,2)])] []
def aNK:=y0 f365 [(1,[(1,0)]),(3,[(5,1),(5,7),(5,10)])] [(5,VV)]
def aNu:=y0 f385 [] []
end Go.Vd
namespace Go.Vd
section
variable{α:Type}(lt:α->α->Bool)(d:α)
def swp(xs:List α)(j:Nat):List α:=(xs.set (j+1) (xs.getD j d)).set j (xs.getD (j+1) d)
def Se(xs:List α):Nat->List α
 |0=>xs
 |j+1=>if lt (xs.getD (j+1) d) (xs.getD j d)=true then Se (swp d xs j) j else xs
def Dv:Nat->Nat->List α->List α
 |0,_,xs=>xs
 |f+1,i,xs=>Dv f (i+1) (Se lt d xs i)
def kR(l:List α)(m:α):Nat->Nat
 |0=>0
 |j+1=>if lt m (l.getD j d)=true then kR l m j else j+1
def aM5(l:List α)(m:α):∀j,kR lt d l m j<=j
 |0=>Qz _
 |j+1=>by
  unfold kR;split
  ·exact Nat.le_succ_of_le (aM5 l m j)
  ·exact Qz _
def oL(xs:List α)(j:Nat):(swp d xs j).length=xs.length:=by simp[swp]
def Sd:∀(j:Nat)(xs:List α),(Se lt d xs j).length=xs.length
 |0,xs=>rfl
 |j+1,xs=>by
  unfold Se;split
  ·rw[Sd j,oL]
  ·rfl
theorem isortR_len:∀(f i:Nat)(xs:List α),(Dv lt d f i xs).length=xs.length
 |0,_,xs=>rfl
 |f+1,i,xs=>by rw[Dv,isortR_len f,Sd]
def aIj(a b:List α)(x y:α):swp d (a++x::y::b) a.length=a++y::x::b:=by
 simp_all [swp]
def dQ(l:List α)(m:α):∀(j:Nat)(b:List α),j<=l.length->Se lt d (l.take j++m::b) j=l.take (kR lt d l m j)++m::((l.take j).drop (kR lt d l m j)++b)
 |0,b,_=>by simp[Se,kR]
 |j+1,b,h=>by
  have y:(l.take j).length=j:=Xn
  have f:l.take (j+1)=l.take j++[l.getD j d]:=by
   rw[List.take_succ_eq_append_getElem O];simp[Zn,Qj (show j<l.length by omega)]
  have e:l.take (j+1)++m::b=l.take j++l.getD j d::m::b:=by rw[f];simp
  have r:(l.take j++l.getD j d::m::b).getD (j+1) d=m:=by
   simp_all
  have i:(l.take j++l.getD j d::m::b).getD j d=l.getD j d:=by
   simp_all
  rw[e];unfold Se kR;rw[r,i];split
  ·have g:=aIj d (l.take j) b (l.getD j d) m;rw[y]at g;rw[g,dQ l m j (l.getD j d::b) O,f];have s:=aM5 lt d l m j;rw[List.drop_append_of_le_length O];simp
  ·simp_all
def kO{xs:List α}{i:Nat}(h:lt (xs.getD i d) (xs.getD (i-1) d)=false):Se lt d xs i=xs:=by
 cases i with
 |zero=>rfl
 |succ j=>
  unfold Se;rw[ZA]at h;rw[if_neg (by rw[h];exact Bool.false_ne_true)]
def Ue(l:List α)(m:α)(g:∀i,i+1<l.length->lt (l.getD (i+1) d) (l.getD i d)=false):
  ∀(f i:Nat),1<=i->i+f=l.length+1->Dv lt d f i (l++[m])=if f=0 then l++[m]else l.take (kR lt d l m l.length)++m::l.drop (kR lt d l m l.length)
 |0,i,_,_=>by simp[Dv]
 |f+1,i,hi,h=>by
  rw[if_neg (Q6 f)];unfold Dv;by_cases o:f=0
  ·subst o;have:i=l.length:=by omega
   subst this;have:=dQ lt d l m l.length [] (Qz _);simp only[ZD,List.append_nil]at this;unfold Dv;exact this
  ·have v:i<l.length:=by omega
   have r:(l++[m]).getD i d=l.getD i d:=by simp[Zn,QU v]
   have u:(l++[m]).getD (i-1) d=l.getD (i-1) d:=by simp[Zn,QU (show i-1<l.length by omega)]
   rw[kO lt d (by rw[r,u];have:=g (i-1) O;rwa [show i-1+1=i by omega]at this),Ue l m g f (i+1) O O,if_neg o]
end
end Go.Vd
namespace Go.Vd
open Go.RowKit
def D.plain:D->Bool
 | .bool _| .int _ _| .str _=>true
 |_=>false
def Rep.plain{w w':World}{g c:Gh}{d:D}{v:Value}(h:Rep w g d v)(o:d.plain=true):Rep w' c d v:=by
 cases h with
 |bool b=>exact .bool b
 |int k n=>exact .int k n
 |str s=>exact .str s
 |_=>cases o
def wC(F:List D->Option (List D)):HA where
 rd:=λ_ _=>[]
 ex:=λds _ fr=>if(ds.map D.un).all D.calm=true then(F (ds.map D.un)).map λxs=>(.row fr xs.length,[(fr,0,flat xs)])else none
section
variable{P:Program}{B:Nat}{w0 w w':World}{m:GV}{g:Gh}
def Hc.adopt(h:Hc P B w0 m w g)(f:Below w.heap.size w w'){fr:Id}(hf:B2 m g fr){b:Nat}(l:w.heap.size<=b){cur:Array Value}{T:TypeId}(hh:w'.heap[b]?=some (.cells cur T (0,0))){ds:List D}
  (hc:∀(j:Nat) d,ds[j]?=some d->d.plain=true∧∃v,cur[j]?=some v∧v.oneCell'=true∧Rep w' (g.obj fr b) d v):
  Hc P B w0 (m.put fr 0 ds) w' (g.obj fr b)∧Hk w g w' (g.obj fr b):=by
 have x:Hk w g w' (g.obj fr b):=by
  refine⟨λp hp=>?_,λb=>Qz _,λi' b h=>?_,rfl,λi x h=>h,f.size,λi' b' h=>?_,λi x h=> .inl ⟨i,x,h,rfl⟩,λk o hk _ _=>(f.block k (QA.1 hk).1).trans hk⟩
  rotate_right
  ·simp only[Gh.obj]at h;split at h
   ·simp only[Qi]at h;exact .inr O
   ·exact .inl ⟨i',h⟩
  ·by_cases aa:p.block<w.heap.size
   ·exact f.cell aa
   ·rw[h.gz _ O]at hp;omega
  ·simp only[Gh.obj];split
   ·rename_i e;subst e;rw[hf.2.1]at h;cases h
   ·exact h
 refine⟨?_,x⟩;have ne:∀i' b',g.dl i'=some b'->i'≠fr:=λi' b' f e=>by subst e;rw[hf.2.1]at f;cases f
 have t:∀o d,m.put fr 0 ds fr o=some d->ds[o]?=some d:=by
  intro o d hm;by_cases ho:o<ds.length
  ·have ia:m.put fr 0 ds fr (0+o)=ds[o]?:=aG ho;rw[QE]at ia;rw[←ia];exact hm
  ·rw[aE O,hf.1 o]at hm;cases hm
 have sa:∀{o d},m.put fr 0 ds fr o=some d->d.plain=true:=λhm=>(hc _ _ (t _ _ hm)).1
 have a:∀{i o d},m.put fr 0 ds i o=some d->d.plain=false->i≠fr∧m i o=some d:=by
  grind [aB]
 refine⟨h.below.trans (f.mono h.size),QO h.size f.size,λb' va=>h.gz b' (QO f.size va),h.old,λi' b' hi=>?_,λi1 i2 b' u z=>?_,λi' o d hm hd=>?_,λi' e hi=>?_,λi1 i2 e e' b' y y' u z h3 h4=>?_,h.itr.to (λi' s p e=>(a e rfl).2) λi' b' s p _ _ _ e1 e2 e3=>?_⟩
 rotate_right
 ·have aa:b'<w.heap.size:=(QA.1 e1).1;refine⟨rfl,f.block b' aa,e2,λi1 u=>?_⟩;simp only[Gh.obj]at u;split at u
  ·grind
  ·exact e3 i1 u
 ·simp only[Gh.obj]at hi;split at hi
  ·rename_i e;subst e;simp only[Qi]at hi;subst hi;refine⟨QO h.size l,h.gz _ l,cur,T,hh,λo d hm=>?_⟩;exact(hc o d (t o d hm)).2
  ·rename_i la;obtain⟨p,q,eb,T',ra,r⟩:=h.obj i' b' hi;refine⟨p,q,eb,T',(f.block b' (h.lt hi)).trans ra,λo d hm=>?_⟩;rw[aB la]at hm;obtain⟨v,r1,r2,r3⟩:=r o d hm;exact⟨v,r1,r2,r3.ext x⟩
 ·simp only[Gh.obj]at u z;split at u<;>split at z
  ·simp_all
  ·simp only[Qi]at u;subst u;have:=h.lt z;omega
  ·simp only[Qi]at z;subst z;have:=h.lt u;omega
  ·exact h.inj _ _ _ u z
 ·simp only[Gh.obj]at hd;split at hd
  ·cases hd
  ·rename_i la;rw[aB la]at hm;exact h.kind _ _ _ hm hd
 ·obtain⟨la,hi⟩:=a hi rfl;obtain⟨b1,n,c,sz,ja,t1,t2,t3,t4,t5,t6,t7,t8,t9,za⟩:=h.tok i' e hi;have aa:b1<w.heap.size:=(QA.1 t5).1;refine⟨b1,n,c,sz,ja,t1,t2,t3,t4,(f.block b1 aa).trans t5,t6,t7,t8,t9,λi1 u=>?_⟩;simp only[Gh.obj]at u;split at u
  ·grind
  ·exact za i1 u
 ·exact h.tinj _ _ _ _ _ _ _ (a u rfl).2 (a z rfl).2 h3 h4
end
section
variable{P:Program}{S:GR}{f:FuncId}{N:Nat}{dc:DC}{rs:List RV}
def aQ5(hS:GR.ok P S)(hf:Fn P f N dc rs){F:List D->Option (List D)}(hN:∀ds r,F ds=some r->ds.length<=N)
  (hF:∀ds xs,F ds=some xs->(∀x∈flat xs,x.plain=true)∧dc.wp S [] (DV rs λd m'=>∃t e,d= .slice false t xs∧t≠[]∧m' t 0=some (.tok (e+1))) ⟨Bz ds,λ_ _=>none,0⟩):(wC F).ok P f:=by
 obtain⟨fn,ea,y,q,h3,h4,h5,h6⟩:=hf.is;refine⟨⟨fn,y,XL,h3⟩,λds m m' fr _=>rfl,?_⟩;intro B w0 w m g fr ds vs r u hi da hl fa z;simp only[wC]at z;split at z
 ·rename_i ma;rw[Qk]at z;obtain⟨xs,hr,z⟩:=z;simp only[Qq]at z;obtain⟨rfl,rfl⟩:=z;obtain⟨sa,bb⟩:=hF _ _ hr;have ua:=NT P w hi.gz;have na:∀(j:Nat) d v,(ds.map D.un)[j]?=some d->vs[j]?=some v->Rep w (startG g.G) d v:=by
   intro j d v s hv;have p:=Qv.1 ma d (Qr s);rw[QI,Qk]at s;obtain⟨d',qa,rfl⟩:=s;exact(fa j d' v qa hv).un.calm_to p (λ_ _=>rfl) (λ_=>Qz _)
  have ka:=Gp (B:=w.heap.size) (w0:=w) (w:=w) (g:=startG g.G) (ns:=[]) (m:=λ_ _=>none) (ds:=ds.map D.un) (vs:=vs) hS hf (hN _ _ hr) ua (λk i _=>⟨λ_=>rfl,rfl,rfl⟩) Xo na bb;refine ka.mono ?_;rintro e w' ⟨v,d,m',g',rfl,ia,ga,_,ab,t,e',rfl,ht,ya⟩;obtain⟨b,n,c,sz,cur,t1,t2,t3,t4,t5,t6,t7,t8,t9,za⟩:=ia.tok t e' ya;rcases ab.slice_inv with ⟨h,_⟩|⟨_,ad,n',c',xa,vv,rfl,q1,q2,q3,q4,q5,q6,q7,q8,q9⟩
  ·cases h
  ·obtain⟨l,o,a⟩:=q8 ht;rw[t1]at a;simp only[Qi,Qq]at a;obtain⟨hb,hn,p,pa⟩:=a;have wb:ad=⟨b,0,none⟩:=by
    cases ad;simp only at hb l o;subst hb l o;rfl
   subst wb;subst hn p pa;have ra:=C_ q3;obtain⟨i1,i2⟩:=hi.adopt ia.below (da fr (Zs _)) t2 t5 (ds:=flat xs) (λj d s=>by
    have hj:j<n*sz:=by rw[q1,←ra];exact(Qt.1 s).1
    have hp:=sa d (Qr s);have ha:=q4 j hj;rw[D8,QE]at ha;refine⟨hp,vv j,?_,q5 j hj,(q6 j d s).plain hp⟩;simpa[World.cell?,t5]using ha)
   refine⟨_,g.obj fr b,rfl,i1,i2,?_,λi hf la=>EH hf la _ _⟩;rw[←q1];exact .row fr n c b q2 (by simp[Gh.obj])
 ·cases z
def aTi(m:GV)(d r:D):Prop:=r=d.un∨(∃i xs sz,d= .row i xs.length∧r= .slice false [] xs∧(∀x∈xs,x.calm=true∧x.cells.length=sz)∧∀(j:Nat) x,(flat xs)[j]?=some x->m i j=some x)∨
 ∃i xs,d= .ptr i 0∧r= .eptr xs∧(∀x∈xs,x.calm=true)∧∀(j:Nat) x,xs[j]?=some x->m i j=some x
def zW(p:D->D->Prop):List D->List D->Prop
 |[],[]=>True
 |c::cs,x::xs=>p c x∧zW p cs xs
 |_,_=>False
def aTh(m:GV)(d r:D):Prop:=aTi m d r∨∃cs xs,d= .agg cs∧r= .agg xs∧zW (aTi m) cs xs
def aYM(m:GV)(d r:D):Prop:=(r.calm=true∧aTh m d r)∨∃cs xs,d= .tup cs∧r= .tup xs∧zW (aTh m) cs xs
def zW.get{p:D->D->Prop}:∀{cs xs:List D},zW p cs xs->cs.length=xs.length∧∀(j:Nat) c x,cs[j]?=some c->xs[j]?=some x->p c x
 |[],[],_=>⟨rfl,U⟩
 |c::cs,x::xs,h=>by
  obtain⟨u,q⟩:=h;obtain⟨a,b⟩:=zW.get q;refine⟨by simp[a],λj c' v g f=>?_⟩;cases j with
  |zero=>simp only[Qs,Qi]at g f;subst g f;exact u
  |succ j=>simp only[Ql]at g f;exact b j c' v g f
 |[],_::_,h=>h.elim
 |_::_,[],h=>h.elim
def qR(hS:GR.ok P S)(hf:Fn P f N dc rs){F:List D->Option D}(hN:∀ds r,F ds=some r->ds.length<=N)
  (hF:∀ds r,F ds=some r->r.calmR=true∧dc.wp S [] (DV rs λd m'=>aYM m' d r) ⟨Bz ds,λ_ _=>none,0⟩):(Ac F).ok P f:=by
 obtain⟨fn,ea,y,q,h3,h4,h5,h6⟩:=hf.is;refine⟨⟨fn,y,XL,h3⟩,λds m m' fr _=>rfl,?_⟩;intro B w0 w m g fr ds vs r u hi n hl fa z;simp only[Ac]at z;split at z
 ·rename_i ma;rw[Qk]at z;obtain⟨r',hr,z⟩:=z;simp only[Qq]at z;obtain⟨rfl,rfl⟩:=z;obtain⟨sa,bb⟩:=hF _ _ hr;have ua:=NT P w hi.gz;have na:∀(j:Nat) d v,(ds.map D.un)[j]?=some d->vs[j]?=some v->Rep w (startG g.G) d v:=by
   intro j d v s hv;have hc:=Qv.1 ma d (Qr s);rw[QI,Qk]at s;obtain⟨d',qa,rfl⟩:=s;exact(fa j d' v qa hv).un.calm_to hc (λ_ _=>rfl) (λ_=>Qz _)
  have ka:=Gp (B:=w.heap.size) (w0:=w) (w:=w) (g:=startG g.G) (ns:=[]) (m:=λ_ _=>none) (ds:=ds.map D.un) (vs:=vs) hS hf (hN _ _ hr) ua (λk i _=>⟨λ_=>rfl,rfl,rfl⟩) Xo na bb;refine ka.mono ?_;rintro e w' ⟨v,d,m',g',rfl,ia,ga,_,ab,ja⟩
  let G':Nat->Nat:=λb=>max (g'.G b) (match w'.heap[b]? with|some (.cells c _ _)=>c.size|_=>0)
  have t:∀b,g'.G b<=(g.glue w G').G b:=by
   intro b;simp only[Gh.glue];split
   ·rename_i aa;rw[ia.old b aa,ga.G0];exact Qz _
   ·exact Nat.le_max_left ..
  have l:∀b,w'.heap.size<=b->G' b=0:=by
   intro b hb;simp only[G'];rw[Array.getElem?_eq_none hb,ia.gz b hb];rfl
  have hC:∀{d r:D} {v:Value},Rep w' g' d v->aTi m' d r->r.calm=true->Rep w' (g.glue w G') r v:=by
   intro d r v h hs hc;rcases hs with rfl|⟨i,xs,sz,rfl,rfl,p,hm⟩|⟨i,xs,rfl,rfl,p,hm⟩
   ·exact h.un.calm_to hc (λ_ _=>rfl) t
   ·obtain⟨b,cap,rfl,o,hb⟩:=h.row_inv;obtain⟨mb,kb,cur,T,a,wa⟩:=ia.obj i b hb;have ra:=C_ λx h=>(p x h).2
    have ya:∀(j:Nat),j<(flat xs).length->∃v,cur[j]?=some v∧v.oneCell'=true∧∃x,(flat xs)[j]?=some x∧Rep w' g' x v:=by
     grind
    have pa:(flat xs).length<=cur.size:=by
     grind
    have ma:∀x∈xs,x.calm=true:=λx h=>(p x h).1
    refine aH (sz:=sz) (cur:=cur) (vs:=cur.toList.take (flat xs).length) a rfl o (λx h=>(p x h).2) ⟨Xc,λv hv=>?_,λj x v oa hv=>?_⟩ (λj v hv=>?_) ?_ (λh=>absurd rfl h) ma
    ·obtain⟨j,hj,rfl⟩:=Q8 hv;have xa:j<(flat xs).length:=Za hj (Zj _ _);obtain⟨v',r1,r2,_⟩:=ya j xa;have:(cur.toList.take (flat xs).length)[j]?=some v':=by rw[QM xa];simpa using r1
     rw[Qj hj]at this;rw[QF this];exact r2
    ·have xa:j<(flat xs).length:=(Qt.1 oa).1;obtain⟨v',r1,r2,x',ta,r3⟩:=ya j xa;rw[oa]at ta;obtain rfl:=QF ta;have:(cur.toList.take (flat xs).length)[j]?=some v':=by rw[QM xa];simpa using r1
     rw[hv]at this;obtain rfl:=QF this;exact r3.calm_to (Gn ma x (Qr oa)) (λ_ _=>rfl) t
    ·grind
    ·rw[←ra];simp only[Gh.glue,G'];rw[if_neg O,a];exact QO pa (ZE ..)
   ·obtain⟨b,rfl,hb⟩:=h.ptr_inv;obtain⟨mb,kb,cur,T,a,wa⟩:=ia.obj i b hb;have ya:∀(j:Nat)(hj:j<xs.length),∃v,cur[j]?=some v∧v.oneCell'=true∧Rep w' g' xs[j] v:=λj hj=>wa j _ (hm j _ (Qj hj))
    have pa:xs.length<=cur.size:=by
     rcases Zz xs.length with h0|h0
     ·omega
     ·obtain⟨v,r1,_⟩:=ya (xs.length-1) O;have:=(QA.1 r1).1;omega
    refine .eptr xs ⟨b,0,none⟩ (λj=>cur.getD j undef) (λj hj=>?_) (λj hj=>?_) (λj d s=>?_) (λ_=>?_) p
    ·rw[D8,QE];simp[World.cell?,a,Array.getD,show j<cur.size by omega]
    ·obtain⟨v,r1,r2,_⟩:=ya j hj;have:cur.getD j undef=v:=by simp[Qy,r1]
     rw[this];exact r2
    ·have hj:=(Qt.1 s).1;obtain⟨v,r1,_,r3⟩:=ya j hj;have y:cur.getD j undef=v:=by simp[Qy,r1]
     have q:xs[j]=d:=(Qt.1 s).2;rw[q]at r3;rw[y];exact r3.calm_to (p d (Qr s)) (λ_ _=>rfl) t
    ·simp only[Gh.glue,G'];rw[if_neg O,a];exact QO (by simpa using pa) (ZE ..)
  have hD:∀{d r:D} {v:Value},Rep w' g' d v->aTh m' d r->r.calm=true->Rep w' (g.glue w G') r v:=by
   intro d r v h hs hc;rcases hs with hs|⟨cs,xs,rfl,rfl,hL⟩
   ·exact hC h hs hc
   ·obtain⟨us,rfl,k1,k2,k3⟩:=aJ h;obtain⟨l1,l2⟩:=hL.get;refine .agg _ us (by rw[k1,l1]) k2 (λj x v p hv=>?_);have hj:j<cs.length:=by rw[l1];exact(Qt.1 p).1
    exact hC (k3 j _ v (Qj hj) hv) (l2 j _ x (Qj hj) p) (fA hc x (Qr p))
  refine⟨v,g.glue w G',rfl,hi.glue ia.below l,Hk.glue hi.gz ia.below,?_,λi hf _=>hf⟩;rcases ja with ⟨hc,hs⟩|⟨cs,xs,rfl,rfl,hL⟩
  ·exact hD ab hs hc
  ·obtain⟨us,rfl,k1,k2⟩:=ab.tup_inv;obtain⟨l1,l2⟩:=hL.get;refine .tup _ us (by rw[k1,l1]) (λj x v p hv=>?_);have hj:j<cs.length:=by rw[l1];exact(Qt.1 p).1
   simp only[D.calmR,Qv]at sa;exact hD (k2 j _ v (Qj hj) hv) (l2 j _ x (Qj hj) p) (sa x (Qr p))
 ·cases z
end
def aJM:D->Bool
 | .slice _ _ _=>true
 |_=>false
def E1:List D->Nat
 |[]=>0
 | .slice _ _ xs::r=>xs.length+E1 r
 |_::r=>E1 r
def eX:∀{L ys:List D},FP L=some ys->ys.length=E1 L∧L.all aJM=true
 |[],ys,h=>by simp only[FP,Qi]at h;subst h;exact⟨rfl,rfl⟩
 |x::r,ys,h=>by
  unfold FP at h;split at h
  ·rename_i o;cases o
  ·rename_i nl t xs n o;cases o;rw[Qk]at h;obtain⟨zs,j,rfl⟩:=h;obtain⟨u,q⟩:=eX j;exact⟨by simp[E1,u],by simp[aJM,q]⟩
  ·cases h
def iQ(sz:Nat)(d:D):Bool:=d.cells.length==sz
def kT{sz:Nat}{ys:List D}(h:ys.all (iQ sz)=true):aF ys sz=sz:=by
 cases ys with
 |nil=>rfl
 |cons y r=>
  have:=Qv.1 h y (QZ ..);simpa[aF,iQ]using this
def bAu{n bytes:Nat}(na:bytes<=1000000)(c:n<=100000):n*(bytes+1)<=140737488355328:=QO (Nat.mul_le_mul c (Nat.succ_le_succ na)) O
def aDj{m:GV}{e:Nat}{fr t:Id}{nl:Bool}{xs:List D}:Ha.app m (Be e fr (.slice nl t xs)) fr 0=some (.tok (e+1)):=by
 cases nl<;>simp[Be,Ha.app,Bp]
def VO(pt:Nat):DC:=(.seq (.row [⟨some 12,.bin .lss (.t 11) (.t 10),[],none⟩]) (.seq (.cond (.t 12) .skip (.exit 0)) (.seq (.block 1 (.seq (.row [⟨some 13,.iaddr 1 (.t 9) (.t 11),[],none⟩,⟨some 14,.load none (.t 13),[],none⟩,⟨some 5,.mv (.t 14),[],none⟩]) (.seq (.row [⟨some 15,.mv (.t 3),[],none⟩,⟨some 16,.mv (.t 5),[],none⟩,⟨some 17,.len false (.t 16),[],none⟩,⟨some 18,.bin .add (.t 15) (.t 17),[],none⟩,⟨some 3,.mv (.t 18),[],none⟩]) (.seq (.row [⟨some 19,.mv (.t 3),[],none⟩,⟨some 20,.bin .lss (.t 19) (.c (.int .i64 0)),[],none⟩]) (.cond (.t 20) (.row [⟨some 21,.mkif pt (.c (.str [108,101,110,32,111,117,116,32,111,102,32,114,97,110,103,101])),[],none⟩,⟨none,.stop,[],none⟩]) .skip))))) (.row [⟨some 22,.bin .add (.t 11) (.c (.int .i64 1)),[],none⟩,⟨some 11,.mv (.t 22),[],none⟩]))))
def VN(e sz bytes:Nat):DC:=(.seq (.row [⟨some 28,.bin .lss (.t 27) (.t 26),[],none⟩]) (.seq (.cond (.t 28) .skip (.exit 2)) (.seq (.block 3 (.seq (.row [⟨some 29,.iaddr 1 (.t 25) (.t 27),[],none⟩,⟨some 30,.load none (.t 29),[],none⟩,⟨some 8,.mv (.t 30),[],none⟩]) (.row [⟨some 31,.mv (.t 6),[],none⟩,⟨some 32,.mv (.t 8),[],none⟩,⟨some 33,.app e sz bytes (.t 31) (.t 32),[],none⟩,⟨some 6,.mv (.t 33),[],none⟩]))) (.row [⟨some 34,.bin .add (.t 27) (.c (.int .i64 1)),[],none⟩,⟨some 27,.mv (.t 34),[],none⟩]))))
def MS(pt e sz bytes gf:Nat):DC:=(.seq (.row [⟨some 2,.mv (.c (.slice true [] [])),[],none⟩]) (.seq (.row [⟨some 3,.mv (.c (.int .i64 0)),[],none⟩]) (.seq (.seq (.row [⟨some 9,.mv (.t 0),[],none⟩,⟨some 10,.len false (.t 9),[],none⟩,⟨some 11,.mv (.c (.int .i64 0)),[],none⟩]) (.block 0 (.loop (VO pt)))) (.seq (.row [⟨some 23,.mv (.t 3),[],none⟩,⟨some 24,.call (.c (.fn gf [])) [(.c (.slice true [] [])),(.t 23)],[],none⟩,⟨some 6,.mv (.t 24),[],none⟩]) (.seq (.seq (.row [⟨some 25,.mv (.t 0),[],none⟩,⟨some 26,.len false (.t 25),[],none⟩,⟨some 27,.mv (.c (.int .i64 0)),[],none⟩]) (.block 2 (.loop (VN e sz bytes)))) (.seq (.row [⟨some 35,.mv (.t 6),[],none⟩,⟨some 2,.mv (.t 35),[],none⟩]) .ret))))))
def aCj{pt:Nat}{S:GR}{ns:Id}{L:List D}{nl:Bool}{t:Id}{Q:Ex->St->Prop}(i:L.length<=1000)(p:L.all aJM=true)
  (u:∀(z:St),z.s 0= .slice nl t L->z.s 3= .int .i64 (E1 L:Nat)->Q (.exit 0) z):
  ∀(R:List D)(k a:Nat) z g,L.drop k=R->k<=L.length->a+E1 R=E1 L->E1 L<=1000000->z.s 0= .slice nl t L->z.s 9= .slice nl t L->z.s 10= .int .i64 (L.length:Nat)->z.s 11= .int .i64 (k:Nat)->z.s 3= .int .i64 (a:Nat)->
   AK S ns (VO pt) Q z g:=by
 intro R;induction R with
 |nil=>
  intro k a z g hd j q r y h9 w o m;refine Af (VO.eq_1 pt) ?_;have n:L.length<=k:=by simpa using hd
  have:¬((k:Int)<L.length):=O
  simp only[↓GQ,GX,Hf,reduceIte,Qn,w,o,this];refine u _ ?_ ?_
  ·simp only[↓GQ,reduceIte,Qm,y]
  ·simp only[↓GQ,reduceIte,Qm,m];simp only[E1]at q;rw[←q];rfl
 |cons x R ih=>
  intro k a z g hd j q r y h9 w o m;refine Af (VO.eq_1 pt) ?_;have ia:k<L.length:=by
   grind
  have e:L[k]?=some x:=by
   have:=congrArg (·[0]?) hd;simpa using this
  have f:aJM x=true:=Qv.1 p x (Qr e);have c:L.drop (k+1)=R:=by
   rw[←ZL,hd];rfl
  match x,f with
  | .slice nl' t' xs,_=>
   have v:((k:Int)<L.length):=O
   have ma:(0:Int)<=(k:Int):=O
   have d:L[(k:Int).toNat]?=some (.slice nl' t' xs):=by simpa using e
   simp only[E1]at q;have w1:IntKind.i64.wrap ((a:Int)+(xs.length:Int))=((a+xs.length:Nat):Int):=Yy
   have w2:IntKind.i64.wrap ((k:Int)+1)=((k+1:Nat):Int):=Yy
   have b:¬(((a+xs.length:Nat):Int)<0):=O
   simp only[↓GQ,GT,reduceIte,Qm,Qn,h9,w,o,m,v,ma,d,w1,w2,b];exact ih (k+1) (a+xs.length) _ _ c O O r y h9 w rfl rfl
def aCi{e sz bytes:Nat}(na:bytes<=1000000){S:GR}{ns:Id}{L:List D}{nl0:Bool}{t0:Id}{Q:Ex->St->Prop}(i:L.length<=1000)
  (fa:∀(z:St)(nl:Bool)(t:Id)(ys:List D),FP L=some ys->z.s 6= .slice nl t ys->(nl=true->ys=[])->I9 z.m e (.slice nl t ys)->Q (.exit 2) z):
  ∀(R:List D)(k:Nat)(acc zs:List D)(nl:Bool)(t:Id) z g,L.drop k=R->k<=L.length->FP R=some zs->FP L=some (acc++zs)->(acc++zs).all (iQ sz)=true->(acc++zs).length<=100000->
   (nl=true->acc=[])->I9 z.m e (.slice nl t acc)->
   z.s 6= .slice nl t acc->z.s 25= .slice nl0 t0 L->z.s 26= .int .i64 (L.length:Nat)->z.s 27= .int .i64 (k:Nat)->
   AK S ns (VN e sz bytes) Q z g:=by
 intro R;induction R with
 |nil=>
  intro k acc zs nl t z g hd u hz hL j y oa a h6 ka b q;refine Af (VN.eq_1 e sz bytes) ?_;have r:L.length<=k:=by simpa using hd
  have:¬((k:Int)<L.length):=O
  simp only[FP,Qi]at hz;subst hz;simp only[↓GQ,GX,Hf,reduceIte,Qn,b,q,this];refine fa _ nl t acc (by simpa using hL) ?_ oa a;simp only[↓GQ,reduceIte,Qm,h6]
 |cons x R ih=>
  intro k acc zs nl t z g hd u hz hL j y oa a h6 ka b q;refine Af (VN.eq_1 e sz bytes) ?_;have ia:k<L.length:=by
   grind
  have la:L[k]?=some x:=by
   have:=congrArg (·[0]?) hd;simpa using this
  have w:L.drop (k+1)=R:=by
   rw[←ZL,hd];rfl
  unfold FP at hz;split at hz
  ·rename_i o;cases o
  ·rename_i nl' t' xs R' o;cases o;rw[Qk]at hz;obtain⟨f,c,rfl⟩:=hz;have v:((k:Int)<L.length):=by omega
   have n:(0:Int)<=(k:Int):=O
   have d:L[(k:Int).toNat]?=some (.slice nl' t' xs):=by simpa using la
   have w2:IntKind.i64.wrap ((k:Int)+1)=((k+1:Nat):Int):=Yy
   simp only[↓GQ,GT,reduceIte,Qm,Qn,h6,ka,b,q,v,n,d];have qa:(if nl=true then xs else acc++xs)=acc++xs:=Ba oa;refine aD (λp=>?_) (λp=>?_)
   ·obtain⟨rfl,rfl⟩:=p;obtain rfl:=oa rfl;simp only[↓GQ,GX,Hx,reduceIte,Qm,Qn,q,w2];exact ih (k+1) [] f true [] _ _ w O c (by simpa using hL) (by simpa using j) XY (λ_=>rfl) (.inl rfl) rfl ka b rfl
   ·have fb:xs.all (iQ sz)=true:=by
     rw[ZH,ZH]at j;simp only[QP]at j;exact j.2.1
    refine aA ⟨bAu na (by simp only[Zb]at y;omega),kT fb,a⟩ ?_;rw[qa];simp only[↓GQ,GX,Hx,reduceIte,Qm,Qn,q,w2];refine ih (k+1) (acc++xs) f false _ _ _ w O c (by simpa using hL) (by simpa using j) XY (λh=>Xd) (.inr ⟨aDj,U⟩) rfl ka b rfl
  ·cases hz
def UP(sz:Nat):List D->Option (List D)
 |[.slice _ _ L]=>match FP L with
  |some ys=>if L.length<=1000∧0<ys.length∧ys.length<=100000∧ys.all (iQ sz)=true then some ys else none
  |none=>none
 |_=>none
def V9{P:Program}{f gf pt e sz bytes:Nat}(na:bytes<=1000000){S:GR}(x:S gf=some (Ez e)){L ys:List D}{nl:Bool}{t:Id}(r:FP L=some ys)(c1:L.length<=1000)(c2:0<ys.length)(n:ys.length<=100000)(k:ys.all (iQ sz)=true)
  {R:D->GV->Prop} (g:∀t m,I9 m e (.slice false t ys)->R (.slice false t ys) m):(MS pt e sz bytes gf).wp S [] (DV [.t 2] R) ⟨Bz [.slice nl t L],λ_ _=>none,0⟩:=by
 obtain⟨hl,p⟩:=eX r;unfold MS;simp only[↓GQ,GX,reduceIte,Qm,Qn];refine aCj c1 p (λz y d=>?_) L 0 0 _ _ rfl O U O rfl rfl rfl rfl rfl;simp only[↓GQ,GX,Hf,reduceIte,Qn,d];rw[A7 x];have a:(Ez e).ex ([D.slice true [] [],D.int IntKind.i64 (E1 L:Nat)]++[]) z.m [z.c+1]=some (.slice false [0,z.c+1] [],[([0,z.c+1],0,[.tok (e+1)])]):=by
  grind [Ez]
 refine aI a ?_;simp only[↓GQ,GX,reduceIte,Qm,Qn,y];refine aCi na c1 (λo nl' b zs j i v q=>?_) L 0 [] ys false _ _ _ rfl O r (by simpa using r) (by simpa using k) (by simpa using n) (λh=>Xd) (.inr ⟨?_,U⟩) rfl y rfl rfl
 ·rw[r]at j;simp only[Qi]at j;subst j;have w:nl'=false:=by
   grind
  subst w;simp only[↓GQ,GX,reduceIte,Qm,Qn,i];exact g _ _ q
 ·simp[Bp]
section
variable{P:Program}{f gf pt e sz bytes:Nat}
def Ta{ds ys:List D}(h:UP sz ds=some ys):∃nl t L,ds=[.slice nl t L]∧FP L=some ys∧L.length<=1000∧0<ys.length∧ys.length<=100000∧ys.all (iQ sz)=true:=by
 unfold UP at h;split at h
 ·grind
 ·cases h
def gS(gf e:Nat):GR:=λf=>if f=gf then some (Ez e)else none
def aNd(a:(Ez e).ok P gf):GR.ok P (gS gf e):=by
 intro f q h;unfold gS at h;split at h
 ·simp_all
 ·cases h
def aJ6(j:Fn P f 36 (MS pt e sz bytes gf) [.t 2])(na:bytes<=1000000)(a:(Ez e).ok P gf):(wC λds=>(UP sz ds).bind λys=>if(flat ys).all D.plain=true then some ys else none).ok P f:=by
 refine aQ5 (aNd a) j (λds r h=>?_) (λds r h=>?_)
 ·rw[QB]at h;obtain⟨ys,h,_⟩:=h;obtain⟨nl,t,L,rfl,_⟩:=Ta h;simp
 ·rw[QB]at h;obtain⟨ys,h,q⟩:=h;split at q
  ·rename_i o;simp only[Qi]at q;subst q;obtain⟨nl,t,L,rfl,c0,c1,c2,n,k⟩:=Ta h;refine⟨λx p=>Qv.1 o x p,V9 (P:=P) (f:=f) na (by simp[gS]) c0 c1 c2 n k λt m w=>?_⟩;rcases w with h|⟨u,q⟩
   ·cases h
   ·exact⟨t,e,rfl,q,u⟩
  ·cases q
def aJ7(o:Fn P f 36 (MS pt e sz bytes gf) [.t 2])(na:bytes<=1000000)(a:(Ez e).ok P gf){F:List D->Option D}
  (j:∀ds r,F ds=some r->∃nl t L ys,ds=[.slice nl t L]∧FP L=some ys∧L.length<=1000∧0<ys.length∧ys.length<=100000∧ys.all (iQ sz)=true∧r= .slice false [] ys):(Ac F).ok P f:=by
 refine AB (aNd a) o (λds r h=>?_) (λds r h=>?_)
 ·grind
 ·obtain⟨nl,t,L,ys,rfl,c0,c1,c2,n,k,rfl⟩:=j ds r h;exact V9 (P:=P) (f:=f) na (by simp[gS]) c0 c1 c2 n k λt m q=>⟨rfl,rfl⟩
end
def Of(n:Nat):UInt8:=if n<10 then UInt8.ofNat (48+n)else UInt8.ofNat (87+n)
def Pe(s:List UInt8):List UInt8:=s.flatMap λb=>[Of (b.toNat / 16),Of (b.toNat % 16)]
theorem hexB_len:∀s:List UInt8,(Pe s).length=2*s.length
 |[]=>rfl
 |b::r=>by
  have:=hexB_len r;simp only[Pe,List.flatMap_cons,Zb,QH,QV]at this ⊢;omega
theorem C1(a b:List UInt8):Aw (a++b)=Aw a++Aw b:=by simp[Aw]
def BA(a:List UInt8):(Aw a).length=a.length:=by simp[Aw]
def Ci:∀a:List UInt8,BM (Aw a)=some a
 |[]=>rfl
 |c::r=>by
  have h:=c.toNat_lt;show(BM (Aw r)).map _=_;rw[Ci r];simp
def Sf:∀n,n<16->([48,49,50,51,52,53,54,55,56,57,97,98,99,100,101,102]:List UInt8)[n]?=some (Of n):=Xj
def aYI:∀n:Nat,n<256->bits .and .u8 (n:Int) 15=((n % 16:Nat):Int):=Xj
def aZG:∀n:Nat,n<256->(n:Int).fdiv (2 ^ min (4:Int).toNat IntKind.u8.bits)=((n / 16:Nat):Int):=Xj
def xO(s:List UInt8)(c:UInt8):Pe (s++[c])=Pe s++[Of (c.toNat / 16),Of (c.toNat % 16)]:=by simp[Pe]
def C3:List (List UInt8)->Nat
 |[]=>0
 |w::r=>w.length+C3 r
def Tf(m:GV)(i:Id):Nat->Nat->Option (List (List UInt8))
 |0,_=>some []
 |f+1,j=>match m i j,Tf m i f (j+1)with
  |some (.str p),some l=>some (p::l)
  |_,_=>none
def TE{m:GV}{i:Id}:∀{f j:Nat} {xs:List (List UInt8)},Tf m i f j=some xs->xs.length=f∧∀k x,xs[k]?=some x->m i (j+k)=some (.str x)
 |0,j,xs,h=>by
  simp only[Tf,Qi]at h;subst h;exact⟨rfl,U⟩
 |f+1,j,xs,h=>by
  unfold Tf at h;split at h
  ·rename_i p l n t;simp only[Qi]at h;subst h;obtain⟨r,a⟩:=TE t;refine⟨by simp[r],λk x u=>?_⟩;cases k with
   |zero=>simp only[Qs,Qi]at u;subst u;exact n
   |succ k=>
    have:=a k x XQ;rw[show j+1+k=j+(k+1)by omega]at this;exact this
  ·cases h
def W3{m m':GV}{i:Id}:∀{f j n:Nat},j+f<=n->(∀o,o<n->m i o=m' i o)->Tf m i f j=Tf m' i f j
 |0,j,n,_,_=>rfl
 |f+1,j,n,hn,h=>by
  unfold Tf;rw[h j O,W3 (f:=f) (j:=j+1) O h]
def oN{m:GV}{i:Id}:∀{xs:List (List UInt8)} {j:Nat},(∀k x,xs[k]?=some x->m i (j+k)=some (.str x))->Tf m i xs.length j=some xs
 |[],j,_=>rfl
 |x::r,j,h=>by
  have n:=h 0 x rfl;have c:=oN (xs:=r) (j:=j+1) (λk y d=>by have:=h (k+1) y XS;rw[show j+1+k=j+(k+1)by omega];exact this);simp only[QH,Tf,Zm]at n ⊢;rw[n,c]
def B0:List (List UInt8)->List UInt8
 |[]=>[]
 |[w]=>w
 |w::v::r=>w++44::B0 (v::r)
def Gc:∀l:List (List UInt8),(B0 l).length<=C3 l+l.length
 |[]=>by simp[B0]
 |[w]=>by simp[B0,C3]
 |w::v::r=>by
  have:=Gc (v::r);simp only[B0,Zb,QH,C3]at this ⊢;omega
def Sb:∀l:List (List UInt8),Lib.join l [44]=B0 l
 |[]=>rfl
 |[w]=>Lib.join_one w [44]
 |w::v::r=>by
  have ih:=Sb (v::r);rw[Lib.join_cons]at ih;rw[Lib.join_cons,B0,←ih];simp[Lib.joinTail]
def Ud:HA where
 rd:=λds _=>match ds with
  |[.row i n,_]=>(ZX n).map λo=>(i,o)
  |_=>[]
 ex:=λds m _=>match ds with
  |[.row i n,.str [44]]=>(Tf m i n 0).bind λl=>if l.length<=1000∧C3 l<=1000000 then some (.str (B0 l),[])else none
  |_=>none
def aCZ {P:Program} {ρ:Go.Shelf.Ren} (L:Go.Proofs.Lays.n156 P ρ) (X:Go.Proofs.Builder.Extra P ρ) (ja:∃fn,P.funcs[ρ.f 156]?=some fn∧fn.body.isSome=true∧(fn.name== "runtime.NumGoroutine")=false):Ud.ok P (ρ.f 156):=by
 refine⟨ja,λds m m' fr h=>?_,?_⟩
 ·simp only[Ud]at h ⊢;split
  ·rename_i i n;simp only at h;rw[W3 (m:=m) (m':=m') (n:=n) O λo ho=>h (i,o) (QW.2 ⟨o,by simpa using ho,rfl⟩)]
  ·rfl
 intro B w0 w m g fr ds vs r u hi t hl fa p;simp only[Ud]at p;split at p
 ·rename_i i n;rw[QB]at p;obtain⟨l,s,p⟩:=p;split at p
  ·rename_i hc;obtain⟨c1,c2⟩:=hc;simp only[Qi,Qq]at p;obtain⟨rfl,rfl⟩:=p
   match vs,hl with
   |[v,v1],_=>
    have h0:=fa 0 _ v rfl rfl;have y:=fa 1 _ v1 rfl rfl;rw[y.str_inv];obtain⟨b,c,rfl,fb,hb⟩:=h0.row_inv;obtain⟨ia,k⟩:=TE s;obtain⟨mb,kb,cur,T,a,wa⟩:=hi.obj i b hb;have q:∀(j:Nat) z,l[j]?=some z->w.cell? ⟨b,0+j,none⟩=some (.string ⟨z.toArray⟩):=by
     intro j z hz;have hm:=k j z hz;rw[QE]at hm;obtain⟨v',d,r2,r3⟩:=wa j _ hm;rw[r3.str_inv]at d;simp[World.cell?,a,d]
    have aa:(l.map λx=>(⟨x.toArray⟩:ByteArray)).map (·.data.toList)=l:=YI
    have e:(⟨#[44]⟩:ByteArray).data.toList=[44]:=rfl;have ta:=Gc l;have:=Go.Proofs.Any.strings_Join L X b 0 c (l.map λx=>(⟨x.toArray⟩:ByteArray)) ⟨#[44]⟩ w (λj x hx=>by
     rw[QI,Qk]at hx;obtain⟨z,hz,rfl⟩:=hx;exact q j z hz) (hi.lt hb) Xc Xc (by rw[aa,e,Sb];omega)
    rw[aa,e,Sb,Qu,ia]at this;refine this.mono ?_;rintro ev w' ⟨rfl,hb⟩;exact⟨_,g.over w w',rfl,hi.over hb,Hk.over hi.gz hb,.str _,λi hf _=>hf⟩
  ·cases p
 ·cases p
theorem EU{a:Act}{t:Nat}{d:Option Tmp}{v:Value}(h:d≠some t):(a.put d v).tmps[t]?=a.tmps[t]?:=by
 cases d with
 |none=>rfl
 |some k=>
  have s:k≠t:=λe=>h (by rw[e])
  simp only[Act.put];rw[Zi];rw[if_neg s]
def ME{P:Program}{ops:Array Oper}{t:Nat}{x:Option Value}{Q:Exit->Act->World->Prop}(hn:∀(i:Nat) o,ops[i]?=some o->o.dst≠some t):∀(l:List Nat)(a:Act)(w:World),
  a.tmps[t]?=x->wpOps P ops Q l a w->wpOps P ops (λe k w'=>Q e k w'∧(e= .normal->k.tmps[t]?=x)) l a w
 |[],a,w,hx,h=>⟨h,λ_=>hx⟩
 |i::l,a,w,hx,h=>by
  have ih:=ME (P:=P) (Q:=Q) (x:=x) hn l;simp only[wpOps]at h ⊢;cases ho:ops[i]? with
  |none=>rw[ho]at h;exact ih a w hx h
  |some o=>
   rw[ho]at h;simp only at h ⊢;have z:=hn i o ho;split at h
   ·rename_i p;rw[if_pos p];rcases h with h|⟨u,q⟩
    ·left;unfold Oper.wp at h ⊢;revert h;generalize (execOp a.eval o).run P w=r;intro h;unfold Oper.upon at h ⊢;split at h
     ·grind [EU]
     ·grind [EU]
     ·grind [EU]
     ·refine h.mono (λe w' m=>?_);cases e with
      |returned v=>exact ih _ _ Yz m
      |panicked c=>exact⟨m,λe=>nomatch e⟩
      |outgrown=>obtain⟨b,w0,y⟩:=m;exact⟨b,w0,y,λe=>nomatch e⟩
     ·exact h.mono (λv w' m=>ih _ _ Yz m)
     ·exact⟨h,λe=>nomatch e⟩
     ·exact h.elim
    ·right;obtain⟨b,w0,y⟩:=q;exact⟨u,b,w0,y,λe=>nomatch e⟩
   ·rename_i p;rw[if_neg p];exact ih _ _ Yz h
def Du(t:Nat):Code->Bool
 | .region _ ops _=>ops.toList.all λo=>o.dst !=some t
 | .seq a b=>Du t a&&Du t b
 | .cond _ a b=>Du t a&&Du t b
 | .block _ c=>Du t c
 | .loop c=>Du t c
 |_=>true
section
variable{P:Program}{B:Nat}{w0:World}{N:Nat}{ns:Id}{S:GR}{t:Nat}
def Uc{ops:Array Oper}(h:(ops.toList.all λo=>o.dst !=some t)=true)(i:Nat)(o:Oper)(r:ops[i]?=some o):o.dst≠some t:=by
 grind
def aDy(hS:GR.ok P S):∀(ea:Code)(dc:DC),AA P N ea=some dc->Du t ea=true->∀(st:St)(e:Ex)(ca:St),Ev S ns dc st e ca->∀(a:Act)(w:World)(g:Gh),Cm P B w0 N ns st a w g->
  ea.wp P (λe' a' w'=>Wr P B w0 N ns st w g e ca e' a' w'∧a'.tmps[t]?=a.tmps[t]?) a w:=by
 intro ea;induction ea with
 |skip=>
  intro dc da hk st e ca ha a w g hx;simp only[AA,Qi]at da;subst da;obtain⟨rfl,rfl⟩:=ha;exact wp_skip ⟨⟨rfl,g,hx,Hk.refl w g,DS.refl _ _ _⟩,rfl⟩
 |ret=>
  intro dc da hk st e ca ha a w g hx;simp only[AA,Qi]at da;subst da;obtain⟨rfl,rfl⟩:=ha;exact wp_ret ⟨⟨rfl,g,hx,Hk.refl w g,DS.refl _ _ _⟩,rfl⟩
 |exit i=>
  intro dc da hk st e ca ha a w g hx;simp only[AA,Qi]at da;subst da;obtain⟨rfl,rfl⟩:=ha;exact wp_exit ⟨⟨rfl,g,hx,Hk.refl w g,DS.refl _ _ _⟩,rfl⟩
 |region id ops r=>
  intro dc da hk st e ca ha a w g hx;cases r with
  |false=>
   simp only[AA,Qk]at da;obtain⟨aa,fa,rfl⟩:=da;obtain⟨rfl,he,hc⟩:=ha;rw[Fw,Fx S ns st.c aa aa 0 _ _ rfl,←Zh]at he;have hl:aa.length=ops.size:=by simpa using (Ca fa).1
   have h0:below 0=λ_=>false:=XX
   refine wp_mono (wp_region (ME (x:=a.tmps[t]?) (Q:=Wr P B w0 N ns st w g .normal ca) (Uc hk) _ a w rfl ?_)) (λe' a' w' h=>⟨h.1,h.2 h.1.1⟩);rw[←hl];refine De hS fa (ZX aa.length) (below 0) st.s st.m a w g ca.s ca.m ?_ he (hx.start _) (λa' w' g' h1 h2 h3=>⟨rfl,g',?_,h2,h3⟩)
   ·rw[Zh];exact L6 _ 0
   ·rw[Zh,IQ]at h1;rw[QE]at h1;unfold Cm;rw[hc,Qu];exact h1.done
  |true=>
   simp only[AA]at da;obtain⟨aa,ba,fa,hb,hs,ia,rfl⟩:=Cd da;obtain⟨rfl,⟨f,he,hf⟩,hc⟩:=ha;rw[EI]at he;refine wp_mono (wp_region_draw (λu=>ME (x:=a.tmps[t]?) (Q:=Wr P B w0 N ns st w g .normal ca) (Uc hk) _ a _ rfl ?_)) (λe' a' w' h=>⟨h.1,h.2 h.1.1⟩);obtain⟨g1,g2⟩:=FL fa hb ia (P.follows .mixedOrders) u;have z:=LW (c:=st.c) (ns:=ns) hS hb hs he hf g1 g2;have oa:InS P B w0 N ns st.c st.s st.m a w.drew g:=⟨hx.inv.drew,λt=>(hx.slots t).ext (Hk.drew w g),hx.size,hx.defers,hx.fresh⟩;refine De hS fa _ (λ_=>false) st.s st.m a w.drew g ca.s ca.m (Lr g1) z (oa.start _) (λa' w' g' h1 h2 h3=>⟨rfl,g',?_,(Hk.drew w g).trans h2,h3⟩);unfold Cm;rw[hc,Qu];rw[g2]at h1;exact h1.done
 |seq x y ta ua=>
  intro dc da hk st e ca ha a w g hx;simp only[Du,QP]at hk;simp only[AA]at da;split at da
  ·rename_i dx dy h1 h2;simp only[Qi]at da;subst da;obtain⟨e1,ga,d,ja⟩:=ha;have bb:=ta dx h1 hk.1 st e1 ga d a w g hx;refine wp_seq (wp_mono bb ?_);rintro e' a' w' ⟨⟨rfl,g',hh,ma,b⟩,na⟩;rcases ja with ⟨rfl,v⟩|⟨la,rfl,rfl⟩
   ·exact wp_mono (ua dy h2 hk.2 ga e ca v a' w' g' hh) (λcb ab ya h=>⟨h.1.trans ma b,h.2.trans na⟩)
   ·cases e with
    |normal=>exact absurd rfl la
    |ret=>exact⟨⟨rfl,g',hh,ma,b⟩,na⟩
    |exit i=>exact⟨⟨rfl,g',hh,ma,b⟩,na⟩
  ·cases da
 |cond c x y ta ua=>
  intro dc da hk st e ca ha a w g hx;simp only[Du,QP]at hk;simp only[AA]at da;split at da
  ·rename_i o dx dy h0 h1 h2;simp only[Qi]at da;subst da;have hc:=hx.slots.arg h0;rcases ha with ⟨ht,ha⟩|⟨ht,ha⟩
   ·rw[ht]at hc;exact wp_cond_true hc.bool_inv (ta dx h1 hk.1 st e ca ha a w g hx)
   ·rw[ht]at hc;exact wp_cond_false hc.bool_inv (ua dy h2 hk.2 st e ca ha a w g hx)
  ·cases da
 |block i c ih=>
  intro dc da hk st e ca ha a w g hx;simp only[Du]at hk;simp only[AA,Qk]at da;obtain⟨o,h1,rfl⟩:=da;obtain⟨e1,d,ja⟩:=ha;refine wp_block (wp_mono (ih o h1 hk st e1 ca d a w g hx) ?_);rintro e' a' w' ⟨⟨rfl,g',hh,ma,b⟩,na⟩;rcases ja with ⟨rfl,rfl⟩|⟨la,rfl⟩
  ·simp only[Ex.toExit,Exit.inBlock,if_true];exact⟨⟨rfl,g',hh,ma,b⟩,na⟩
  ·cases e with
   |normal=>exact⟨⟨rfl,g',hh,ma,b⟩,na⟩
   |ret=>exact⟨⟨rfl,g',hh,ma,b⟩,na⟩
   |exit j=>
    simp only[Ex.toExit,Exit.inBlock];rw[if_neg (λe=>la (by rw[e]))];exact⟨⟨rfl,g',hh,ma,b⟩,na⟩
 |loop c ih=>
  intro dc da hk st e ca ha a w g hx;simp only[Du]at hk;simp only[AA,Qk]at da;obtain⟨o,h1,rfl⟩:=da;obtain⟨n,za⟩:=ha;refine Le (λn a' w'=>∃ga g1,Cm P B w0 N ns ga a' w' g1∧Hk w g w' g1∧DS ns st.m g ga.m g1∧Lp (Ev S ns o) n ga e ca∧a'.tmps[t]?=a.tmps[t]?) ?_ ⟨st,g,hx,Hk.refl w g,DS.refl _ _ _,za,rfl⟩;rintro n a1 w1 ⟨ga,g1,hh,ma,b,sa,na⟩;cases sa with
  |stop _ _ _ hr la=>
   refine wp_mono (ih o h1 hk ga e ca hr a1 w1 g1 hh) ?_;rintro e' a' w' ⟨hp,k⟩;have va:=hp.trans ma b;obtain⟨rfl,_⟩:=hp;cases e with
   |normal=>exact absurd rfl la
   |ret=>exact⟨va,k.trans na⟩
   |exit i=>exact⟨va,k.trans na⟩
  |more n' _ qa _ _ hr q=>
   refine wp_mono (ih o h1 hk ga .normal qa hr a1 w1 g1 hh) ?_;rintro e' a' w' ⟨⟨rfl,g',ra,p,wa⟩,k⟩;exact⟨n',Nat.lt_succ_self _,qa,g',ra,ma.trans p,b.trans wa,q,k.trans na⟩
 |_=>
  intro dc da;simp[AA]at da
end
section
variable{P:Program}{S:GR}{f:FuncId}{N:Nat}{dc a b:DC}{rs:List RV}{code:Code}
def Gv(h:AA P N code=some (.seq a b)):∃x y,code= .seq x y∧AA P N x=some a∧AA P N y=some b:=by
 cases code with
 |seq x y=>
  simp only[AA]at h;split at h
  ·grind
  ·cases h
 |region i ops d=>
  cases d with
  |false=>simp[AA]at h
  |true=>
   simp only[AA]at h;obtain⟨_,_,_,_,_,_,h⟩:=Cd h;cases h
 |cond c x y=>
  simp only[AA]at h;split at h
  ·simp at h
  ·cases h
 |_=>simp[AA]at h
def WT{i:Nat}(h:AA P N code=some (.block i a)):∃x,code= .block i x∧AA P N x=some a:=by
 cases code with
 |block j x=>
  simp only[AA,Qk,DC.block.injEq]at h;obtain⟨c,u,rfl,rfl⟩:=h;exact⟨x,rfl,u⟩
 |region i ops d=>
  cases d with
  |false=>simp[AA]at h
  |true=>
   simp only[AA]at h;obtain⟨_,_,_,_,_,_,h⟩:=Cd h;cases h
 |cond c x y=>
  simp only[AA]at h;split at h
  ·simp at h
  ·cases h
 |seq x y=>
  simp only[AA]at h;split at h
  ·simp at h
  ·cases h
 |_=>simp[AA]at h
def aH6(h:AA P N code=some (.loop a)):∃x,code= .loop x∧AA P N x=some a:=by
 cases code with
 |loop x=>
  simp only[AA,Qk,DC.loop.injEq]at h;obtain⟨c,u,rfl⟩:=h;exact⟨x,rfl,u⟩
 |region i ops d=>
  cases d with
  |false=>simp[AA]at h
  |true=>
   simp only[AA]at h;obtain⟨_,_,_,_,_,_,h⟩:=Cd h;cases h
 |cond c x y=>
  simp only[AA]at h;split at h
  ·simp at h
  ·cases h
 |seq x y=>
  simp only[AA]at h;split at h
  ·simp at h
  ·cases h
 |_=>simp[AA]at h
def aH8{c:GW}(h:AA P N code=some (.cond c a b)):∃o x y,code= .cond o x y∧AE o=some c∧AA P N x=some a∧AA P N y=some b:=by
 cases code with
 |cond o x y=>
  simp only[AA]at h;split at h
  ·grind
  ·cases h
 |region i ops d=>
  cases d with
  |false=>simp[AA]at h
  |true=>
   simp only[AA]at h;obtain⟨_,_,_,_,_,_,h⟩:=Cd h;cases h
 |seq x y=>
  simp only[AA]at h;split at h
  ·simp at h
  ·cases h
 |_=>simp[AA]at h
def aQJ{ops:List DOper}(h:AA P N code=some (.row ops)):∃i t v,code= .region i t false∧C2 P N t.toList=some v∧ops=v.map DOper.strip:=by
 cases code with
 |region i t d=>
  cases d with
  |false=>
   simp only[AA,Qk,DC.row.injEq]at h;obtain⟨v,u,rfl⟩:=h;exact⟨i,t,v,rfl,u,rfl⟩
  |true=>
   simp only[AA]at h;obtain⟨_,_,_,_,_,_,h⟩:=Cd h;cases h
 |cond c x y=>
  simp only[AA]at h;split at h
  ·simp at h
  ·cases h
 |seq x y=>
  simp only[AA]at h;split at h
  ·simp at h
  ·cases h
 |_=>simp[AA]at h
def pS{ops:Array Oper}{Q:Exit->Act->World->Prop}{l2:List Nat}:∀(l:List Nat)(a:Act)(w:World),
  wpOps P ops (λe k w'=>(e= .normal->wpOps P ops Q l2 k w')∧(e≠ .normal->Q e k w')) l a w->wpOps P ops Q (l++l2) a w
 |[],a,w,h=>h.1 rfl
 |i::l,a,w,h=>by
  have ih:=pS (ops:=ops) (Q:=Q) (l2:=l2) l;simp only[wpOps,Q5]at h ⊢;cases ho:ops[i]? with
  |none=>rw[ho]at h;exact ih a w h
  |some o=>
   rw[ho]at h;simp only at h ⊢;split at h
   ·rename_i t;rw[if_pos t];rcases h with h|⟨u,q⟩
    ·left;unfold Oper.wp at h ⊢;revert h;generalize (execOp a.eval o).run P w=r;intro h;unfold Oper.upon at h ⊢;split at h
     ·exact ih _ _ h
     ·exact ih _ _ h
     ·exact ih _ _ h
     ·refine h.mono (λe w' m=>?_);cases e with
      |returned v=>exact ih _ _ m
      |panicked c=>exact m.2 (λe=>nomatch e)
      |outgrown=>obtain⟨b,w0,y⟩:=m;exact⟨b,w0,y.2 (λe=>nomatch e)⟩
     ·exact h.mono (λv w' m=>ih _ _ m)
     ·simp_all
     ·exact h.elim
    ·right;obtain⟨b,w0,y⟩:=q;exact⟨u,b,w0,y.2 (λe=>nomatch e)⟩
   ·simp_all
theorem xS (hf : Fn P f N dc rs) {F : List D → Option D} (hN : ∀ ds r, F ds = some r → ds.length ≤ N)
  (hF : ∀ ds r, F ds = some r → ∀ (fn : Func) (ea : Code) (a : Act) (w : World) (g : Gh), P.funcs[f]? = some fn → fn.body = some ea → AA P N ea = some dc → (∀ i, g.dl i = none) → (∀ i, g.tb i = none) → g.G0 = g.G →
   Cm P w.heap.size w N [] ⟨Bz ds, fun _ _ => none, 0⟩ a w g →
   ea.wp P (fun e a' w' => (e = .normal ∨ e = .ret) ∧ ∃ ca g' d, Cm P w.heap.size w N [] ca a' w' g' ∧ g'.G0 = g.G0 ∧ B6 rs ca.s ca.m = some d ∧ d.unR = r ∧ r.calmR = true) a w) : (Ac F).ok P f := by
 obtain ⟨fn, ea, y, z, h3, h4, h5, h6⟩ := hf.is
 refine ⟨⟨fn, y, by rw [z]; rfl, h3⟩, fun ds m m' fr _ => rfl, ?_⟩
 intro B w0 w m g fr ds vs r u hi da hl fa ba
 simp only [Ac] at ba
 split at ba
 ·rename_i ma
  rw [Qk] at ba
  obtain ⟨r', hr, ba⟩ := ba
  simp only [Qq] at ba
  obtain ⟨rfl, rfl⟩ := ba
  let g0 : Gh := { G := g.G, G0 := g.G, dl := fun _ => none, tb := fun _ => none }
  have ua : Hc P w.heap.size w (fun _ _ => none) w g0 :=
   ⟨Below.refl _ _, Qz _, hi.gz, fun _ _ => rfl, fun i b h => by simp [g0] at h, fun i i' b h => by simp [g0] at h, fun i o d h => Xf, fun i e h => Xf, fun i i' e e' b x x' h => Xf, fun i s p h => Xf, fun i i' s p s' p' b x x' h => Xf⟩
  have na : ∀ (j : Nat) d v, (ds.map D.un)[j]? = some d → vs[j]? = some v → Rep w g0 d v := by
   intro j d v hd hv
   have hc := Qv.1 ma d (Qr hd)
   rw [QI, Qk] at hd
   obtain ⟨d', qa, rfl⟩ := hd
   exact (fa j d' v qa hv).un.calm_to hc (fun _ _ => rfl) (fun _ => Qz _)
  have q := hN _ _ hr
  rw [Qu] at q
  have la : Cm P w.heap.size w N [] ⟨Bz (ds.map D.un), fun _ _ => none, 0⟩ { tmps := vs.toArray ++ ZI (N - vs.toArray.size) undef, defers := [] } w g0 := by
   refine ⟨ua, fun t => ?_, XI, rfl, fun k i _ hs => ⟨fun _ => rfl, rfl, rfl⟩⟩
   simp only [Bz]
   by_cases ht : t < (ds.map D.un).length
   ·have ha : t < ds.length := by simpa using ht
    have e1 : (ds.map D.un).getD t .junk = (ds.map D.un)[t] := by simp [Zn, ha]
    have e2 : (vs.toArray ++ ZI (N - vs.toArray.size) undef).getD t undef = vs[t]' O := by
     rw [Qy, Array.getElem?_append_left XI]
     simp [hl, ha]
    rw [e1, e2]
    exact na t _ _ (Qj ht) (Qj _)
   ·have e1 : (ds.map D.un).getD t .junk = .junk := by simp [Zn, List.getElem?_eq_none (Nat.le_of_not_lt ht)]
    rw [e1]
    exact .junk _
  have ka : Calls P f vs.toArray w fun e w' => ∃ v d m' g', e = .returned v ∧ Hc P w.heap.size w m' w' g' ∧ g'.G0 = g0.G0 ∧ Rep w' g' d v ∧ d.unR = r' ∧ r'.calmR = true := by
   refine calls_of_wp y z ?_
   rw [h4]
   refine wp_mono (hF _ _ hr fn ea _ w g0 y z h5 (fun _ => rfl) (fun _ => rfl) rfl la) ?_
   rintro e' a' w' ⟨n, ca, g', d, hh, l, hd, hR⟩
   obtain ⟨v, va, za⟩ := OJ hh.inv hh.slots h6 hd
   have hb : a'.defers = [] ∧ ∃ v, (results fn a'.tmps).run P w' = .ok v w' ∧ ∃ v' d m' g', Ending.returned v = .returned v' ∧ Hc P w.heap.size w m' w' g' ∧ g'.G0 = g0.G0 ∧ Rep w' g' d v' ∧ d.unR = r' ∧ r'.calmR = true :=
    ⟨hh.defers, v, va, v, d, ca.m, g', rfl, hh.inv, l, za, hR⟩
   rcases n with rfl | rfl
   ·exact hb
   ·exact hb
  refine ka.mono ?_
  rintro e w' ⟨v, d, m', g', rfl, ia, l, ab, rfl, sa⟩
  have c : ∀ b, (g.glue w g'.G).G b = g'.G b := by
   intro b
   simp only [Gh.glue]
   split
   ·rename_i aa
    rw [ia.old b aa, l]
   ·rfl
  refine ⟨v, g.glue w g'.G, rfl, hi.glue ia.below ia.gz, Hk.glue hi.gz ia.below, ?_, fun i hf _ => hf⟩
  exact ab.unR.calmR_to sa (fun _ _ => rfl) (fun b => by rw [c]; exact Qz _)
 ·cases ba
end
section
variable{P:Program}{B:Nat}{w0 w:World}{m:GV}{g g0:Gh}{N:Nat}
def Gh.bare(g:Gh)(B b n:Nat):Gh:={G:=λk=>if k<B then g.G k else if k=b then n else 0,G0:=g.G0,dl:=λ_=>none,tb:=λ_=>none}
def SH{bs:List UInt8}{j:Nat}:(Aw bs)[j]?=(bs[j]?).map λx=> .int .u8 x.toNat:=by
 simp[Aw]
def aBa(hi:Hc P B w0 m w g)(ib:∀i,g0.dl i=none)(kb:∀i,g0.tb i=none)(hb:g0.G0=g0.G)(fb:∀b,B<=b->g0.G b=0)(l:g.G0=g0.G0)
  {t:Id} {e n c b:Nat} {bs:List UInt8} {y:UInt8} (la:bs≠[]) (ya:m t 0=some (.tok (e+1))) (fa:Rep w g (.slice false t (Aw bs)) (.slice (some ⟨b,0,none⟩) n c)) (ht:t≠[]) (cb:g.tb t=some (b,n,c,1)) (hn:n=bs.length) (u:w0.heap.size<=B):
  ∃cur,w.heap[b]?=some (.cells cur e (0,0))∧n<=cur.size∧∀cs:Array Value,cs=(cur.toList.take (n-1)++[Value.int .u8 y.toNat]++cur.toList.drop (n-1+1)).toArray->
   Hc P B w0 (λ_ _=>none) (w.setRow b cs) (g.bare B b n)∧Hk w0 g0 (w.setRow b cs) (g.bare B b n)∧Rep (w.setRow b cs) (g.bare B b n) (.slice false [] (Aw (bs.set (bs.length-1) y))) (.slice (some ⟨b,0,none⟩) n c):=by
 obtain⟨b1,n1,c1,sz,cur,t1,t2,t3,t4,t5,t6,t7,t8,t9,za⟩:=hi.tok t e ya;rw[cb]at t1;simp only[Qi,Qq]at t1;obtain⟨rfl,rfl,rfl,rfl⟩:=t1;have ea:0<bs.length:=Zl.2 la;rcases fa.slice_inv with ⟨h,_⟩|⟨_,ad,n2,c2,vb,vv,ev,r1,r2,r3,r4,r5,r6,r7,r8,r9⟩
 ·cases h
 simp only[Value.slice.injEq,Qi]at ev;obtain⟨rfl,rfl,rfl⟩:=ev;obtain⟨_,_,q3⟩:=r8 ht;rw[cb]at q3;simp only[Qi,Qq,true_and]at q3;subst q3;refine⟨cur,t5,O,λcs sa=>?_⟩;have pa:(w.setRow b cs).heap.size=w.heap.size:=X0
 have ba:∀k,k≠b->(w.setRow b cs).heap[k]?=w.heap[k]?:=λk hk=>setRow_other w b k _ hk
 have f:Below B w0 (w.setRow b cs):=⟨hi.below.os,hi.below.tape,hi.below.output,by rw[pa];exact hi.below.size,λk hk=>(ba k O).trans (hi.below.block k hk)⟩;have ka:b<w.heap.size:=(QA.1 t5).1;have ua:∀i k,(g.bare B b n).dl i=some k->False:=λi k h=>Yk
 have q:∀{d:D},(none:Option D)=some d->False:=λh=>Xd
 have na:∀i k,g0.dl i=some k->(g.bare B b n).dl i=some k:=λi k h=>by rw[ib]at h;cases h
 have ta:∀i x,g0.tb i=some x->(g.bare B b n).tb i=some x:=λi x h=>by rw[kb]at h;cases h
 refine⟨⟨f,(by rw[pa];exact hi.size),λk hk=>?_,λk hk=>?_,λi k h=>(ua i k h).elim,λi i' k h=>(ua i k h).elim,λi o d h=>(q h).elim,λi e h=>(q h).elim,λi i' e e' k x x' h=>(q h).elim,?_⟩,⟨λp hp=>?_,λk=>?_,na,l,ta,f.size,λi b' h=>Yk,λi x h=>Yk,λk o hk _ _=>(f.block k (Za (QA.1 hk).1 u)).trans hk⟩,?_⟩
 ·grind [Gh.bare]
 ·simp only[Gh.bare,if_pos hk];exact hi.old k hk
 ·exact⟨λi s p h=>(q h).elim,λi i' s p s' p' b x x' h=>(q h).elim⟩
 ·have v:p.block<B:=by
   rcases ZT p.block B with h|h
   ·exact h
   ·rw[fb _ h]at hp;omega
  exact f.cell v
 ·rcases ZT k B with h|h
  ·simp only[Gh.bare,if_pos h];rw[hi.old k h,l,hb];exact Qz _
  ·simp_all
 ·have ha:∀j,(w.setRow b cs).cell? ((Addr.mk b 0 none).add j)=cs[j]?:=λj=>by
   rw[D8,QE];exact cell_setRow_same w b j cur cs e (0,0) t5
  have a:∀j,w.cell? ((Addr.mk b 0 none).add j)=cur[j]?:=λj=>by
   rw[D8,QE];simp[World.cell?,t5]
  have r:∀j,j<bs.length->cs[j]?=if j=bs.length-1 then some (Value.int .u8 y.toNat)else cur[j]?:=λj hj=>by
   subst sa;rw[hn];have hl:(cur.toList.take (bs.length-1)).length=bs.length-1:=Yw
   simp only[List.getElem?_toArray,Q1];split
   ·simp_all
   ·grind
  have ja:∀j,j<bs.length->cs[j]?=some (Value.int .u8 ((bs.set (bs.length-1) y).getD j 0).toNat):=λj hj=>by
   rw[r j hj];split
   ·simp_all
   ·rename_i e;have h4:=r4 j O;rw[a]at h4;have h6:=r6 j (.int .u8 bs[j].toNat) (by rw[Fu,SH,Qj hj];rfl);rw[h4,h6.int_inv];simp[Zn,Ne.symm e,hj]
  refine .slice [] _ ⟨b,0,none⟩ n c 1 (λj=>Value.int .u8 ((bs.set (bs.length-1) y).getD j 0).toNat) (by simp[Aw,hn]) r2 (λd hd=>?_) (λj hj=>?_) (λj hj=>rfl) (λj d hd=>?_) (λ_=>?_) (λh=>absurd rfl h) (λd hd=>?_)
  ·obtain⟨z,_,rfl⟩:=QW.1 (show d∈ZC _ _ from hd);rfl
  ·simp_all
  ·rw[Fu,SH]at hd;rw[Qk]at hd;obtain⟨z,hz,rfl⟩:=hd;have:(bs.set (bs.length-1) y).getD j 0=z:=by simp[Zn,hz]
   rw[this];exact .int _ _
  ·have hB:¬b<B:=by omega
   simp only[Gh.bare,if_neg hB,if_true];omega
  ·obtain⟨z,_,rfl⟩:=QW.1 (show d∈ZC _ _ from hd);rfl
end
def bZ{P:Program}{ops:Array Oper}{Q n:Exit->Act->World->Prop}(z:∀e a w,Q e a w->n e a w):∀(l:List Nat)(a:Act)(w:World),wpOps P ops Q l a w->wpOps P ops n l a w
 |[],a,w,h=>z _ _ _ h
 |i::l,a,w,h=>by
  have ih:=bZ (P:=P) (ops:=ops) z l;simp only[wpOps]at h ⊢;cases ho:ops[i]? with
  |none=>rw[ho]at h;exact ih a w h
  |some o=>
   rw[ho]at h;simp only at h ⊢;split at h
   ·rename_i t;rw[if_pos t];rcases h with h|⟨u,q⟩
    ·left;unfold Oper.wp at h ⊢;revert h;generalize (execOp a.eval o).run P w=r;intro h;unfold Oper.upon at h ⊢;split at h
     ·exact ih _ _ h
     ·exact ih _ _ h
     ·exact ih _ _ h
     ·refine h.mono (λe w' m=>?_);cases e with
      |returned v=>exact ih _ _ m
      |panicked c=>exact z _ _ _ m
      |outgrown=>obtain⟨b,w0,y⟩:=m;exact⟨b,w0,z _ _ _ y⟩
     ·exact h.mono (λv w' m=>ih _ _ m)
     ·exact z _ _ _ h
     ·exact h.elim
    ·right;obtain⟨b,w0,y⟩:=q;exact⟨u,b,w0,z _ _ _ y⟩
   ·simp_all
def Uj{o:Option DOp}{d:DOp}(z:d≠ .stop)(h:o.getD .stop=d):o=some d:=by
 cases o with
 |none=>exact absurd h.symm z
 |some x=>exact congrArg some h
theorem oC{P:Program}{ne:Bool}{t:TypeId}{x y:Operand}{a b:GW}{n:Nat}{u v:GW}:UV P ne t x y a b≠some (.iaddr n u v):=by
 unfold UV
 (repeat' split)<;>simp
theorem oB{P:Program}{ne:Bool}{t:TypeId}{x y:Operand}{a b:GW}{n:Nat}{u v:GW}:UV P ne t x y a b≠some (.store n u v):=by
 unfold UV
 (repeat' split)<;>simp
def uV{P:Program}{c:Call}{n:Nat}{u v:GW}:Gz P c≠some (.iaddr n u v):=by
 unfold Gz
 (repeat' split)<;>simp
def uU{P:Program}{c:Call}{n:Nat}{u v:GW}:Gz P c≠some (.store n u v):=by
 unfold Gz
 (repeat' split)<;>simp
def aAY{P:Program}{op:Op}{x i:GW}(h:(tr P op).getD .stop= .iaddr 1 x i):∃t X I e,op= .indexAddr t X I∧P.underlying t=some (.slice e)∧CS P e=some 1∧AE X=some x∧AE I=some i:=by
 replace h:=Uj U h;unfold tr at h;split at h
 all_goals try (simp only[Qk,reduceCtorEq,and_false,exists_false]at h;done)
 all_goals try ((repeat' split at h)<;>simp only[Qk,reduceCtorEq,and_false,exists_false,Qi]at h<;>done)
 ·grind [oC]
 ·grind [oC]
 ·rename_i t X I;split at h
  ·rename_i e v a u q d;rw[Qk]at h;obtain⟨n,c,o⟩:=h;simp only[DOp.iaddr.injEq]at o;obtain⟨rfl,rfl,rfl⟩:=o;exact⟨t,X,I,e,rfl,u,c,q,d⟩
  ·simp_all
  ·cases h
 ·exact absurd h uV
def aAX{P:Program}{op:Op}{x v:GW}(h:(tr P op).getD .stop= .store 1 x v):∃t X V,op= .store t X V∧CS P t=some 1∧AE X=some x∧AE V=some v:=by
 replace h:=Uj U h;unfold tr at h;split at h
 all_goals try (simp only[Qk,reduceCtorEq,and_false,exists_false]at h;done)
 all_goals try ((repeat' split at h)<;>simp only[Qk,reduceCtorEq,and_false,exists_false,Qi]at h<;>done)
 ·grind
 ·grind [oB]
 ·grind [oB]
 ·exact absurd h uU
def aCB:List DOper:=[⟨some 37,.mv (.t 3),[],none⟩,⟨some 38,.mv (.t 3),[],none⟩,⟨some 39,.len false (.t 38),[],none⟩,⟨some 40,.bin .sub (.t 39) (.c (.int .i64 1)),[],none⟩,⟨some 41,.iaddr 1 (.t 37) (.t 40),[],none⟩,⟨none,.store 1 (.t 41) (.c (.int .u8 1)),[],none⟩]
def FY{d:DOper}{dst:Option Nat}{op:DOp}{t:Option (Nat×Bool)}(h:d.strip=⟨dst,op,[],t⟩):d.dst=dst∧d.op=op∧d.guard=t:=by
 grind [DOper.strip]
section
variable{P:Program}{B:Nat}{w0:World}{N:Nat}{S:GR}
def aJD(hS:GR.ok P S){id:Nat}{ops:Array Oper}{aa:List DOper}(fa:C2 P N ops.toList=some aa)(hd:aa.map DOper.strip=aCB){st:St}{a:Act}{w:World}{g g0:Gh}(hx:Cm P B w0 N [] st a w g)
  (ib:∀i,g0.dl i=none) (kb:∀i,g0.tb i=none) (hb:g0.G0=g0.G) (fb:∀b,B<=b->g0.G b=0) (l:g.G0=g0.G0) (u:w0.heap.size<=B) (rb:Rep w0 g0 (st.s 0) (a.tmps.getD 0 undef))
  {t:Id} {bs:List UInt8} (la:bs≠[]) (ea:bs.length<=1000000000) (ht:t≠[]) (h3:st.s 3= .slice false t (Aw bs)) {n4:Int} (h4:st.s 4= .int .i64 n4) {e:Nat} (ya:st.m t 0=some (.tok (e+1))):
  (Code.region id ops false).wp P (λe a' w'=>e= .normal∧a'.tmps[0]?=a.tmps[0]?∧∃ca g',Cm P B w0 N [] ca a' w' g'∧g'.G0=g0.G0∧ca.s 0=st.s 0∧ca.s 4=st.s 4∧ca.s 3= .slice false [] (Aw (bs.set (bs.length-1) 1))) a w:=by
 have h6:aa.length=6:=by have:=congrArg ZF hd;simpa[aCB]using this
 match aa,h6,hd,fa with
 |[d0,d1,d2,d3,d4,d5],_,hd,fa=>
  simp only[aCB,Q9,Zv,Qx,and_true]at hd;obtain⟨q0,q1,q2,q3,q4,q5⟩:=hd;obtain⟨x0,y0,z0⟩:=FY q0;obtain⟨x1,y1,z1⟩:=FY q1;obtain⟨x2,y2,z2⟩:=FY q2;obtain⟨x3,y3,z3⟩:=FY q3;obtain⟨x4,y4,z4⟩:=FY q4;obtain⟨x5,y5,z5⟩:=FY q5;clear q0 q1 q2 q3 q4 q5;obtain⟨hl,ka⟩:=Ca fa;have pa:ops.size=6:=by simpa using hl.symm
  have oa:∀k,k<6->∃o,ops[k]?=some o:=λk hk=>⟨ops[k],Array.getElem?_eq_getElem O⟩
  have q:∀(k:Nat) o,ops[k]?=some o->o.dst≠some 0:=by
   intro k o ho;obtain⟨d,e1,e2⟩:=ka k o (by simpa using ho);have e3:=(Cw e2).2.1;rw[←e3]
   match k,e1 with
   |0,e1=>simp only[Qs,Qi]at e1;subst e1;rw[x0];decide
   |1,e1=>simp only[Ql,Qs,Qi]at e1;subst e1;rw[x1];decide
   |2,e1=>simp only[Ql,Qs,Qi]at e1;subst e1;rw[x2];decide
   |3,e1=>simp only[Ql,Qs,Qi]at e1;subst e1;rw[x3];decide
   |4,e1=>simp only[Ql,Qs,Qi]at e1;subst e1;rw[x4];decide
   |5,e1=>simp only[Ql,Qs,Qi]at e1;subst e1;rw[x5];decide
   |k+6,e1=>simp at e1
  have p:AQ .sub (.int .i64 (bs.length:Int)) (.int .i64 1)=some (.int .i64 ((bs.length:Int)-1)):=by
   rw[aMl,IntWalk.i64_in _ ⟨O,O⟩]
  have he:CP S [] st.c [d0,d1,d2,d3,d4,d5] [0,1,2,3] st.s st.m=some (AG (AG (AG (AG st.s (some 37) (.slice false t (Aw bs))) (some 38) (.slice false t (Aw bs))) (some 39) (.int .i64 (bs.length:Int))) (some 40) (.int .i64 ((bs.length:Int)-1)),st.m):=by
   have bb:(Aw bs).length=bs.length:=by simp[Aw]
   simp[CP,BQ,Bm,x0,x1,x2,x3,y0,y1,y2,y3,z0,z1,z2,z3,exec,GW.ev,AG,h3,Ha.app,bb,p,dD]
  refine wp_region ?_;rw[pa];show wpOps P ops _ ([0,1,2,3]++[4,5]) a w;refine pS _ a w ?_;have ua:wpOps P ops (λe' a' w'=>e'= .normal∧∃g',InX P B w0 N [] st.c ([0,1,2,3].foldl ins (λ_=>false)) (AG (AG (AG (AG st.s (some 37) (.slice false t (Aw bs))) (some 38) (.slice false t (Aw bs))) (some 39) (.int .i64 (bs.length:Int))) (some 40) (.int .i64 ((bs.length:Int)-1))) st.m a' w' g'∧Hk w g w' g') [0,1,2,3] a w:=
   De hS fa [0,1,2,3] (λ_=>false) st.s st.m a w g _ _ (by simp[aG9,ins]) he (hx.start _) (λa' w' g' h1 h2 h3=>⟨rfl,g',h1,h2⟩)
  refine bZ ?_ _ a w (ME (x:=a.tmps[0]?) q _ a w rfl ua);rintro e1 a1 w1 ⟨⟨rfl,g1,cb,ma⟩,na⟩;refine⟨λ_=>?_,λh=>absurd rfl h⟩;replace na:=na rfl;obtain⟨o4,vb⟩:=oa 4 O;obtain⟨o5,wb⟩:=oa 5 O;obtain⟨e4,f4,g4⟩:=ka 4 o4 (by simpa using vb);obtain⟨e5,f5,g5⟩:=ka 5 o5 (by simpa using wb);simp only[Ql,Qs,Qi]at f4 f5;subst f4 f5;obtain⟨p4,r4,_,u4,_⟩:=Cw g4;obtain⟨p5,r5,_,u5,_⟩:=Cw g5;rw[y4]at p4;rw[y5]at p5;rw[x4]at r4;rw[x5]at r5;rw[z4]at u4;rw[z5]at u5;obtain⟨T4,X4,I4,E4,mb,fc,bc,zb,yb⟩:=aAY p4;obtain⟨T5,X5,V5,ob,hc,db,cc⟩:=aAX p5;have qa:=cb.slots.arg zb;have lb:=cb.slots.arg yb;replace qa:Rep w1 g1 (.slice false t (Aw bs)) (a1.eval X4):=by simpa[GW.ev,AG]using qa
  replace lb:Rep w1 g1 (.int .i64 ((bs.length:Int)-1)) (a1.eval I4):=by simpa[GW.ev,AG]using lb
  have v3:Rep w1 g1 (.slice false t (Aw bs)) (a1.tmps.getD 3 undef):=by have:=cb.slots 3;simpa[AG,h3]using this
  have v4:Rep w1 g1 (.int .i64 n4) (a1.tmps.getD 4 undef):=by have:=cb.slots 4;simpa[AG,h4]using this
  have va:0<bs.length:=Zl.2 la;have j:∀{sz:Nat},(∀d∈Aw bs,d.cells.length=sz)->sz=1:=λh=>by
   cases bs with
   |nil=>exact absurd rfl la
   |cons z r=>exact(h _ (QZ ..)).symm
  rcases qa.slice_inv with ⟨h,_⟩|⟨_,ad,n,c,sz,vv,ev,i1,i2,i3,i4,i5,i6,i7,i8,i9⟩
  ·cases h
  obtain⟨j1,j2,j3⟩:=i8 ht;obtain rfl:=j i3;obtain⟨b,off,jb⟩:=ad;simp only at j1 j2 j3;subst j1 j2;rcases v3.slice_inv with ⟨h,_⟩|⟨_,eb,n',c',xa,ic,ac,k1,k2,k3,k4,k5,k6,k7,k8,k9⟩
  ·cases h
  obtain⟨l1,l2,l3⟩:=k8 ht;obtain⟨b',ec,xb⟩:=eb;simp only at l1 l2 l3;subst l1 l2;rw[j3]at l3;simp only[Qi,Qq]at l3;obtain⟨rfl,rfl,rfl,_⟩:=l3;have wa:n=bs.length:=by rw[i1];simp[Aw]
  rw[ev]at qa;have ha:g1.G0=g0.G0:=by rw[ma.G0,l]
  obtain⟨cur,hh,sa,ja⟩:=aBa (y:=1) cb.inv ib kb hb fb ha la ya qa ht j3 wa u;have dc:Region.wanted o4 (yielded ops a1.tmps)=true:=EB fa cb.slots (by rw[z4,←u4]) (by unfold Bm;rw[z4]);have pb:(execOp a1.eval o4).run P w1= .ok (.value (.pointer (some ⟨b,bs.length-1,none⟩))) w1:=by
   have da:(0:Int)<=(bs.length:Int)-1∧(bs.length:Int)-1<(n:Int):=O
   have ra:(Addr.mk b 0 none).add (((bs.length:Int)-1).toNat*1)=⟨b,bs.length-1,none⟩:=by
    rw[D8];congr 1;omega
   rw[←ra];simp[execOp,mb,Instr.indexAt,asIntOf,lb.int_inv,ev,run_underlying fc,da,Hd bc];intro h;omega
  simp only[wpOps];rw[vb];simp only;rw[if_pos dc];left;unfold Oper.wp;rw[pb,Oper.upon_value,←r4];have ga:41<a1.tmps.size:=by
   have:=(Cw g4).2.2.2.2 41 r4.symm;rw[cb.size];exact this
  have ta:Da w1 g1 _ (a1.put (some 41) (.pointer (some ⟨b,bs.length-1,none⟩))):=cb.slots.put (dst:=some 41) (d:= .junk) (.junk _) (λt ht=>by cases ht;exact ga);generalize ba:a1.put (some 41) (.pointer (some ⟨b,bs.length-1,none⟩))=a2 at ta ⊢;have ia:∀k,k≠41->a2.tmps[k]?=a1.tmps[k]?:=λk hk=>by
   rw[←ba];exact EU (λe=>hk (QF e).symm)
  have sb:a2.eval X5= .pointer (some ⟨b,bs.length-1,none⟩):=by
   cases X5 with
   |tmp k=>
    simp only[AE,Qi,GW.t.injEq]at db;subst db;rw[←ba];simp only[Act.eval,Act.put];rw[Qy,Zi,if_pos rfl,if_pos ga];rfl
   |const v=>simp[AE]at db
   |func f=>simp[AE]at db
   |global k=>simp[AE]at db
  have qb:a2.eval V5= .int .u8 1:=(ta.arg cc).int_inv;have gc:Region.wanted o5 (yielded ops a2.tmps)=true:=EB fa ta (by rw[z5,←u5]) (by unfold Bm;rw[z5]);have gb:=ja _ rfl;have ub:(execOp a2.eval o5).run P w1= .ok .skip (w1.setRow b (cur.toList.take (n-1)++[Value.int .u8 ((1:UInt8).toNat:Int)]++cur.toList.drop (n-1+1)).toArray):=by
   have:=LK (P:=P) (w:=w1) (o:=n-1) hc hh (v:= .int .u8 1) rfl (by simp[Value.cells,Value.oneCell']) O;rw[wa]at this ⊢;simp only[execOp,ob,Instr.storeAt,sb,qb,Instr.sureAddr,Sem.run_bind,Result.andThen_ok,Sem.run_pure,this];rfl
  rw[wb];simp only;rw[if_pos gc];left;rw[ub,Oper.upon_skip,←r5];generalize hW:w1.setRow b (cur.toList.take (n-1)++[Value.int .u8 ((1:UInt8).toNat:Int)]++cur.toList.drop (n-1+1)).toArray=w2 at gb ⊢;obtain⟨F1,F2,F3⟩:=gb;show _∧_;have ab:a2.tmps[0]?=a.tmps[0]?:=by rw[ia 0 Z,na]
  have za:∀k,k≠41->a2.tmps.getD k undef=a1.tmps.getD k undef:=λk hk=>by rw[Qy,Qy,ia k hk]
  refine⟨by first|trivial|rfl,ab,⟨λk=>if k=0 then st.s 0 else if k=4 then .int .i64 n4 else if k=3 then .slice false [] (Aw (bs.set (bs.length-1) 1))else .junk,λ_ _=>none,0⟩,g1.bare B b n,⟨F1,λk=>?_,?_,?_,λk i _ _=>⟨λ_=>rfl,rfl,rfl⟩⟩,ha,rfl,h4.symm,rfl⟩
  ·show Rep w2 _ (if k=0 then _ else if k=4 then _ else if k=3 then _ else _) (a2.tmps.getD k undef);split
   ·rename_i e;subst e;rw[Qy,ab,←Qy];exact rb.ext F2
   ·split
    ·rename_i e;subst e;rw[za 4 Z,v4.int_inv];exact .int _ _
    ·split
     ·rename_i e;subst e;rw[za 3 Z,ac];exact F3
     ·exact .junk _
  ·have:a2.tmps.size=a1.tmps.size:=by rw[←ba];simp[Act.put]
   rw[show(a2.put none undef).tmps.size=a2.tmps.size from rfl,this];exact cb.size
  ·have:a2.defers=a1.defers:=by rw[←ba];rfl
   rw[show(a2.put none undef).defers=a2.defers from rfl,this];exact cb.defers
end
def Cg(m:GV)(e:Nat)(nl:Bool)(t:Id)(emp:Bool):Bool:=
 if nl=true then emp else match m t 0 with
  |some (.tok k)=>k==e+1&&!t.isEmpty
  |_=>false
def Si{m:GV}{e:Nat}{nl:Bool}{t:Id}{emp:Bool}{xs:List D}(h:Cg m e nl t emp=true):I9 m e (.slice nl t xs):=by
 unfold Cg at h;split at h
 ·rename_i y;exact .inl y
 ·split at h
  ·rename_i k r;simp only[QP,beq_iff_eq]at h;rw[h.1]at r;exact .inr ⟨r,by intro e;rw[e]at h;simp at h⟩
  ·cases h
theorem Fq{m m':GV}{e:Nat}{nl:Bool}{t:Id}{emp:Bool}(h:m t 0=m' t 0):Cg m e nl t emp=Cg m' e nl t emp:=by
 unfold Cg;rw[h]
def dU{m m':GV}{e:Nat}{nl:Bool}{t:Id}{emp:Bool}{xs:List D}(h:Cg m e nl t emp=true)(r:nl=false->m t 0=some (.tok (e+1))->m' t 0=m t 0):I9 m' e (.slice nl t xs):=by
 rcases Si (xs:=xs) h with h0|⟨u,q⟩
 ·exact .inl h0
 ·cases nl with
  |true=>exact .inl rfl
  |false=>exact .inr ⟨by rw[r rfl u];exact u,q⟩
def EN{m:GV}{e:Nat}{nl:Bool}{t:Id}{emp:Bool}(h:Cg m e nl t emp=true):nl=false->m t 0=some (.tok (e+1)):=by
 rintro rfl;rcases Si (xs:=[]) h with h0|⟨u,q⟩
 ·cases h0
 ·exact u
theorem CZ{m:GV}{e:Nat}{f t i:Id}{nl:Bool}{xs:List D}{o:Nat}:Ha.app m (Be e f (.slice nl t xs)) i o=if i=f∧o=0 then some (.tok (e+1))else if nl=false∧i=t∧o=0 then some (.tok 0)else m i o:=by
 cases nl<;>simp[Be,Ha.app,Bp]
theorem toNat_ofNat{n:Nat}(h:n<256):(UInt8.ofNat n).toNat=n:=by simp[UInt8.toNat_ofNat'];omega
def Mr(n:Int):IntKind.u8.wrap n=(((n % 256).toNat:Nat):Int):=by
 have u:IntKind.u8.wrap n=n % 256:=YJ
 rw[u];omega
structure Gd (e:Nat) (fr:Id) (m0:GV) (nl0:Bool) (t0:Id) (m:GV) (c:Nat) (t:Id):Prop where
 name:∃l j,t=l++j::fr∧j<c
 tok:m t 0=some (.tok (e+1))
 out:∀i o,¬fr<:+i->m i o=(if nl0=true then m0 else m0.put t0 0 [.tok 0]) i o
def Gs(e:Nat)(fr:Id)(m0:GV)(nl0:Bool)(t0:Id)(m:GV)(c:Nat)(nl:Bool)(t:Id):Prop:=
 (nl=nl0∧t=t0∧∀i o,¬fr<:+i->m i o=m0 i o)∨(nl=false∧Gd e fr m0 nl0 t0 m c t)
def iR(l:List Nat)(j:Nat)(fr:Id):fr<:+l++j::fr:=⟨l++[j],U⟩
theorem aWJ{l z:List Nat}{j k:Nat}{fr:Id}(h:j≠k):l++j::fr≠z++k::fr:=by
 intro e;have t:=congrArg List.reverse e;simp only[List.reverse_append,List.reverse_cons,Q1,List.append_cancel_left_eq]at t;simp only[Q5,Zx,Qx]at t;exact h t.1
section
variable{e:Nat}{fr:Id}{m0 m:GV}{nl0 nl:Bool}{t0 t:Id}{c c' k o:Nat}{l:List Nat}{xs ds:List D}{emp:Bool}
def Gs.start:Gs e fr m0 nl0 t0 m0 c nl0 t0:= .inl ⟨rfl,rfl,λ_ _ _=>rfl⟩
def Gd.gs(h:Gd e fr m0 nl0 t0 m c t):Gs e fr m0 nl0 t0 m c false t:= .inr ⟨rfl,h⟩
def Gd.more(h:Gd e fr m0 nl0 t0 m c t)(g:c<=c'):Gd e fr m0 nl0 t0 m c' t:=⟨by obtain⟨l,j,b,r⟩:=h.name;exact⟨l,j,b,O⟩,h.tok,h.out⟩
def Gs.more(h:Gs e fr m0 nl0 t0 m c nl t)(g:c<=c'):Gs e fr m0 nl0 t0 m c' nl t:=h.imp id (λ⟨a,b⟩=>⟨a,b.more g⟩)
def pT(na:∀i o,fr<:+i->m0 i o=none)(h:m0 t0 0=some (.tok (e+1))):¬fr<:+t0:=λg=>by rw[na _ _ g]at h;cases h
def MD(i:Id)(o':Nat)(hi:¬fr<:+i):m.put (l++k::fr) o ds i o'=m i o':=aB (λe=>hi (e▸iR l k fr))
def Gd.put(h:Gd e fr m0 nl0 t0 m c t)(s:c<=k:=by omega):Gd e fr m0 nl0 t0 (m.put (l++k::fr) o ds) c t:=by
 refine⟨h.name,?_,λi o' hi=>(MD i o' hi).trans (h.out i o' hi)⟩;obtain⟨z,j,b,r⟩:=h.name;rw[aB]
 ·exact h.tok
 ·grind [aWJ]
def Gs.put(h:Gs e fr m0 nl0 t0 m c nl t)(s:c<=k:=by omega):Gs e fr m0 nl0 t0 (m.put (l++k::fr) o ds) c nl t:=by
 rcases h with ⟨a,b,d⟩|⟨a,h⟩
 ·exact .inl ⟨a,b,λi o' hi=>(MD i o' hi).trans (d i o' hi)⟩
 ·exact .inr ⟨a,h.put s⟩
def Gs.grow(h:Gs e fr m0 nl0 t0 m c nl t)(na:∀i o,fr<:+i->m0 i o=none)(y:Cg m0 e nl0 t0 emp=true):I9 m e (.slice nl t xs):=by
 rcases h with ⟨rfl,rfl,d⟩|⟨a,h⟩
 ·exact dU y (λp e2=>d _ _ (pT na e2))
 ·obtain⟨z,j,b,r⟩:=h.name;exact .inr ⟨h.tok,by rw[b];simp⟩
def Gs.nil(h:Gs e fr m0 nl0 t0 m c nl t)(y:Cg m0 e nl0 t0 emp=true):nl=true->emp=true:=by
 rcases h with ⟨rfl,rfl,d⟩|⟨a,_⟩
 ·grind [Cg]
 ·rw[a];intro h;cases h
def Gs.app(h:Gs e fr m0 nl0 t0 m c nl t)(s:c<=k)(ia:k<c'):Gd e fr m0 nl0 t0 (Ha.app m (Be e (l++k::fr) (.slice nl t xs))) c' (l++k::fr):=by
 refine⟨⟨l,k,rfl,ia⟩,by rw[CZ,if_pos ⟨rfl,rfl⟩],λi o hi=>?_⟩;have v:i≠l++k::fr:=λe=>hi (e▸iR l k fr)
 rw[CZ,if_neg (λx=>v x.1)];rcases h with ⟨rfl,rfl,d⟩|⟨rfl,h⟩
 ·grind [Bp]
 ·obtain⟨z,j,b,r⟩:=h.name;have p:i≠t:=λe=>hi (by rw[e,b];exact iR z j fr)
  rw[if_neg (λx=>p x.2.1)];exact h.out i o hi
def Gd.fin(h:Gd e fr m0 nl0 t0 m c t)(na:∀i o,fr<:+i->m0 i o=none)(y:Cg m0 e nl0 t0 emp=true):∀i o x,Ha.app m0 (Be e t (.slice nl0 t0 xs)) i o=some x->m i o=some x:=by
 intro i o x f;rw[CZ]at f;by_cases u:i=t∧o=0
 ·rw[if_pos u]at f;rw[u.1,u.2,h.tok];exact f
 ·rw[if_neg u]at f;by_cases q:nl0=false∧i=t0∧o=0
  ·obtain⟨rfl,rfl,rfl⟩:=q;rw[if_pos ⟨rfl,rfl,rfl⟩]at f;rw[h.out _ _ (pT na (EN y rfl)),if_neg U,Bp,if_pos ⟨rfl,rfl⟩];exact f
  ·rw[if_neg q]at f;by_cases hi:fr<:+i
   ·simp_all
   ·rw[h.out i o hi];cases nl0 with
    |true=>exact f
    |false=>simp only[QQ,if_false,Bp];rw[if_neg (λx=>q ⟨rfl,x⟩)];exact f
end
def GI{P:Program}{S:GR}{f:FuncId}{N:Nat}{dc:DC}{rs:List RV}(hS:GR.ok P S)(j:Fn P f N dc rs){q:HA}(z:∀ds m m' fr,(∀l∈q.rd ds m,m l.1 l.2=m' l.1 l.2)->q.ex ds m fr=q.ex ds m' fr)
  (hq:∀ds m fr r u,q.ex ds m fr=some (r,u)->(∀i o,fr<:+i->m i o=none)->ds.length<=N∧dc.wp S fr (DV rs λd m'=>d=r∧∀i o x,Ha.app m u i o=some x->m' i o=some x) ⟨Bz ds,m,0⟩):q.ok P f:=by
 obtain⟨fn,n,y,h2,h3,h4,b,h6⟩:=j.is;refine⟨⟨fn,y,by rw[h2];rfl,h3⟩,z,?_⟩;intro B w0 w m g fr ds vs r u hi t hl fa p;have na:∀k i,(k::fr)<:+i->B2 m g i:=λk i h=>t i ((QK k fr).trans h)
 obtain⟨hN,bb⟩:=hq ds m fr r u p (λi o h=>(t i h).1 o);have s:=Gp (ns:=fr) hS j hN hi na hl fa bb;refine s.mono ?_;rintro e w' ⟨v,d,m',g',rfl,ia,a,qa,ab,rfl,ta⟩;refine⟨v,g',rfl,ia.less ta,a,ab,λi j c=>?_⟩;obtain⟨k1,k2,k3⟩:=qa i j c;refine⟨λo=>?_,k2,k3⟩;cases hx:Ha.app m u i o with
 |none=>rfl
 |some x=>exact absurd (k1 o) (by rw[ta i o x hx];simp)
def gQ(e:Nat)(F:List D->Option (List D×List Nat)):HA where
 rd:=λds _=>match ds with
  | .slice _ t _::_=>[(t,0)]
  |_=>[]
 ex:=λds m fr=>match ds with
  | .slice nl t xs::rest=>if Cg m e nl t xs.isEmpty=true∧xs.length<=100000000 then(F rest).map λy=>(.slice false (y.2++fr) (xs++y.1),Be e (y.2++fr) (.slice nl t xs))else none
  |_=>none
def aSG{e:Nat}{F:List D->Option (List D×List Nat)}(ds:List D)(m m':GV)(fr:Id)(h:∀l∈(gQ e F).rd ds m,m l.1 l.2=m' l.1 l.2):(gQ e F).ex ds m fr=(gQ e F).ex ds m' fr:=by
 simp only[gQ]at h ⊢;split
 ·rename_i nl t xs v;rw[Fq (h (t,0) U)]
 ·rfl
def aSH{e:Nat}{F:List D->Option (List D×List Nat)}{ds:List D}{m:GV}{fr:Id}{d:D}{u:Ha}(h:(gQ e F).ex ds m fr=some (d,u)):
  ∃nl t xs v ys l,ds= .slice nl t xs::v∧Cg m e nl t xs.isEmpty=true∧xs.length<=100000000∧F v=some (ys,l)∧d= .slice false (l++fr) (xs++ys)∧u=Be e (l++fr) (.slice nl t xs):=by
 simp only[gQ]at h;split at h
 ·rename_i nl t xs v;split at h
  ·rename_i s;rw[Qk]at h;obtain⟨⟨ys,l⟩,j,h⟩:=h;simp only[Qq]at h;exact⟨nl,t,xs,v,ys,l,rfl,s.1,s.2,j,h.1.symm,h.2.symm⟩
  ·cases h
 ·cases h
def aNb{e:Nat}{F:List D->Option (List D×List Nat)}{m:GV}{fr:Id}{nl:Bool}{t:Id}{xs v ys:List D}{l:List Nat}{K:D×Ha->Prop}{g}(h0:I9 m e (.slice nl t xs))(c:nl=true->xs=[])(hl:xs.length<=100000000)(j:F v=some (ys,l))
  (h:K (.slice false (l++fr) (xs++ys),Be e (l++fr) (.slice nl t xs))):Hl ((gQ e F).ex (.slice nl t xs::v) m fr) K g:=by
 refine aI ?_ h;have a:Cg m e nl t xs.isEmpty=true:=by
  unfold Cg;cases nl with
  |true=>rw[if_pos rfl,c rfl];rfl
  |false=>
   rcases h0 with h0|⟨u,q⟩
   ·cases h0
   ·simp_all
 simp only[gQ];rw[if_pos ⟨a,hl⟩,j];rfl
def OY:Nat->Int->List UInt8
 |0,_=>[]
 |k+1,n=>UInt8.ofNat ((n.fdiv (2 ^ (8*k))) % 256).toNat::OY k n
def Lu:∀k n,(OY k n).length=k
 |0,_=>rfl
 |k+1,n=>by simp[OY,Lu k n]
def Eb:D->Bool
 | .int .u8 _=>true
 |_=>false
def grownQ:HA where
 rd:=λ_ _=>[]
 ex:=λds _ fr=>match ds with
  |[.slice _ _ xs,.int .i64 k]=>if 0<=k∧xs.all Eb=true∧(xs.length:Int)+k<=140737488355328 then some (.slice false (0::fr) xs,[(0::fr,0,[.tok 6])])else none
  |_=>none
def cQ(e:Nat)(q:D->D)(F:List D->Option (List D×List Nat)):HA where
 rd:=λ_ _=>[]
 ex:=λds _ fr=>match ds with
  | .slice _ _ xs::rest=>if xs.all Eb=true∧xs.length<=100000000 then(F rest).map λy=>(q (.slice false (y.2++fr) (xs++y.1)),[(y.2++fr,0,[.tok (e+1)])])else none
  |_=>none
def mC{e:Nat}{q:D->D}{F:List D->Option (List D×List Nat)}{ds:List D}{m:GV}{fr:Id}{d:D}{u:Ha}(h:(cQ e q F).ex ds m fr=some (d,u)):
  ∃nl t xs v ys l,ds= .slice nl t xs::v∧xs.all Eb=true∧xs.length<=100000000∧F v=some (ys,l)∧d=q (.slice false (l++fr) (xs++ys))∧u=[(l++fr,0,[.tok (e+1)])]:=by
 simp only[cQ]at h;split at h
 ·rename_i nl t xs v;split at h
  ·rename_i s;rw[Qk]at h;obtain⟨⟨ys,l⟩,j,h⟩:=h;simp only[Qq]at h;exact⟨nl,t,xs,v,ys,l,rfl,s.1,s.2,j,h.1.symm,h.2.symm⟩
  ·cases h
 ·cases h
def dY{e:Nat}{q:D->D}{F:List D->Option (List D×List Nat)}{m:GV}{fr:Id}{nl:Bool}{t:Id}{xs v ys:List D}{l:List Nat}{K:D×Ha->Prop}{g}(x:xs.all Eb=true)(hl:xs.length<=100000000)(j:F v=some (ys,l))
  (h:K (q (.slice false (l++fr) (xs++ys)),[(l++fr,0,[.tok (e+1)])])):Hl ((cQ e q F).ex (.slice nl t xs::v) m fr) K g:=by
 refine aI ?_ h;simp only[cQ];rw[if_pos ⟨x,hl⟩,j];rfl
def Ow(a:List UInt8):(Aw a).all Eb=true:=by
 rw[Qv];intro x f;obtain⟨c,_,rfl⟩:=QW.1 f;rfl
def Gd.finc{e:Nat}{fr:Id}{m0 m:GV}{t0 t:Id}{c:Nat}(h:Gd e fr m0 true t0 m c t)(na:∀i o,fr<:+i->m0 i o=none):∀i o x,Ha.app m0 [(t,0,[.tok (e+1)])] i o=some x->m i o=some x:=
 h.fin (emp:=true) (xs:=[]) na (by unfold Cg;rfl)
def aDi{m:GV}{fr:Id}{nl:Bool}{t:Id}{xs:List D}{k:Int}(s:0<=k)(x:xs.all Eb=true)(hl:(xs.length:Int)+k<=140737488355328):grownQ.ex [.slice nl t xs,.int .i64 k] m fr=some (.slice false (0::fr) xs,[(0::fr,0,[.tok 6])]):=by
 grind [grownQ]
def B3{n:Int}(h:0<=n)(j:n<18446744073709551616):IntKind.u64.wrap n=n:=by
 have:IntKind.u64.wrap n=n % 18446744073709551616:=YJ
 rw[this];omega
def U8(d:D):D:= .tup [d,.int .i64 0]
def zI{n:Int}(h:0<=n)(d:n<18446744073709551616)(j:Nat):IntKind.u64.wrap ((n.fdiv (2 ^ (8*j))).tdiv 256)=n.fdiv (2 ^ (8*(j+1))):=by
 have p:(0:Int)<=2 ^ (8*j):=ZU (ZW Z);have y:(0:Int)<=2 ^ (8*(j+1)):=ZU (ZW Z);rw[Q3 _ p,Q3 _ y];have e:(2:Int) ^ (8*(j+1))=2 ^ (8*j)*256:=by rw[show 8*(j+1)=8*j+8 by omega,Int.pow_add];rfl
 have q:0<=n / 2 ^ (8*j):=ZJ h p;have g:n / 2 ^ (8*j)<=n:=Int.ediv_le_self _ h;rw[Int.tdiv_eq_ediv_of_nonneg q,e,←Int.ediv_ediv_of_nonneg p];exact B3 (ZJ q Z) O
def zJ{n:Int}(h:0<=n)(j:Nat):((n.fdiv (2 ^ (8*j))).tmod 256) % 256=n.fdiv (2 ^ (8*j)) % 256:=by
 grind
def Ir:Nat->Nat
 |0=>0
 |k+1=>18+9*k+Ir k
def mQ(n:Nat)(F:List D->List D->Option (D×List D)):HA where
 rd:=λds _=>match ds with
  | .ptr i 0::_=>Ag i 0 n
  |_=>[]
 ex:=λds m _=>match ds with
  | .ptr i 0::rest=>match Ai m i 0 n with
   |some cs=>(F cs rest).map λy=>(y.1,[(i,0,y.2)])
   |none=>none
  |_=>none
def aRi{n:Nat}{F:List D->List D->Option (D×List D)}(ds:List D)(m m':GV)(fr:Id)(h:∀l∈(mQ n F).rd ds m,m l.1 l.2=m' l.1 l.2):(mQ n F).ex ds m fr=(mQ n F).ex ds m' fr:=by
 grind [mQ,B_]
def Vz{n:Nat}{F:List D->List D->Option (D×List D)}{i:Id}{m:GV}{v:List D}{fr:Id}:(mQ n F).ex (.ptr i 0::v) m fr=(Ai m i 0 n).bind λcs=>(F cs v).map λy=>(y.1,[(i,0,y.2)]):=by
 grind [mQ,Ai]
def aRj{n:Nat}{F:List D->List D->Option (D×List D)}{ds:List D}{m:GV}{fr:Id}{r:D}{u:Ha}(h:(mQ n F).ex ds m fr=some (r,u)):
  ∃i v cs t,ds= .ptr i 0::v∧Ai m i 0 n=some cs∧F cs v=some (r,t)∧u=[(i,0,t)]:=by
 simp only[mQ]at h;split at h
 ·rename_i i v;split at h
  ·rename_i cs k;rw[Qk]at h;obtain⟨y,j,h⟩:=h;simp only[Qq]at h;obtain⟨rfl,rfl⟩:=h;exact⟨i,v,cs,y.2,rfl,k,j,rfl⟩
  ·cases h
 ·cases h
section
variable{m m':GV}{i j:Id}{n o k:Nat}{cs ys:List D}{d:D}{fr:Id}
def A_(h:Ai m i 0 n=some cs)(z:cs[k]?=some d):m i k=some d:=by
 grind [BL]
def Vc:∀{ds:List D} {m:GV} {p:Nat},(∀k d,ds[k]?=some d->m i (p+k)=some d)->Ai m i p ds.length=some ds
 |[],m,p,_=>rfl
 |x::r,m,p,h=>by
  have y:=h 0 x rfl;rw[Zm]at y;have u:=Vc (ds:=r) (m:=m) (p:=p+1) (λk d z=>by
   have:=h (k+1) d (by simpa using z);rw[show p+(k+1)=p+1+k by omega]at this;exact this)
  simp only[Ai,QH,y,u,QN]
def jE(h:Ai m i 0 n=some cs)(j:o+k<=n):Ai m i o k=some ((cs.drop o).take k):=by
 obtain⟨u,z⟩:=BL h;have hl:((cs.drop o).take k).length=k:=Xs
 have:=Vc (i:=i) (m:=m) (p:=o) (ds:=(cs.drop o).take k) (λq d s=>by
  rw[ZB]at s;split at s
  ·grind
  ·cases s)
 rw[hl]at this;exact this
def jF(h:Ai m i 0 n=some cs)(j:o+ys.length<=n):Ai (m.put i o ys) i 0 n=some (cs.take o++ys++cs.drop (o+ys.length)):=by
 obtain⟨u,z⟩:=BL h;have hl:(cs.take o++ys++cs.drop (o+ys.length)).length=n:=by simp only[Zb,List.length_take,List.length_drop];omega
 have:=Vc (i:=i) (m:=m.put i o ys) (p:=0) (ds:=cs.take o++ys++cs.drop (o+ys.length)) (λq d s=>by
  rw[QE];simp only[GV.put];have a:(cs.take o).length=o:=Xn
  by_cases v:q<o
  ·have g:¬(True∧o<=q∧q<o+ys.length):=by omega
   first
    |rw[if_neg Xc]
    |skip
   rw[Q1,QU O,ZB,if_pos v]at s;exact A_ h s
  ·by_cases b:q<o+ys.length
   ·rw[if_pos Xc];rw[Q1,Q4 O,a,QU O]at s;exact s
   ·rw[if_neg Xc];rw[Q1,Q4 O,a,Q4 O,List.getElem?_drop]at s;rw[show o+ys.length+(q-o-ys.length)=q by omega]at s;exact A_ h s)
 rw[hl]at this;exact this
def Fe(n:Nat)(i:Id)(m m':GV):Prop:=∀(j:Id)(o:Nat)(x:D),(j≠i∨n<=o)->m j o=some x->m' j o=some x
def Fe.refl:Fe n i m m:=λ_ _ _ _ h=>h
def Fe.own(h:Fe n i m m')(r:o+ys.length<=n):Fe n i m (m'.put i o ys):=λj p x w f=>by
 have u:=h j p x w f;simp only[GV.put];split
 ·grind
 ·exact u
def Fe.new(na:∀i o,fr<:+i->m i o=none)(l:List Nat)(h:Fe n i m m'):Fe n i m (m'.put (l++k::fr) o ys):=λj p x w f=>by
 have u:=h j p x w f;have v:j≠l++k::fr:=λe=>by
  rw[e,na _ _ ⟨l++[k],U⟩]at f;cases f
 rw[aB v];exact u
def bC(na:∀i o,fr<:+i->m i o=none)(h:Fe n i m m'):Fe n i m (m'.put (k::fr) o ys):=Fe.new na [] h
end
theorem bAd {P : Program} {S : GR} {f : FuncId} {N : Nat} {dc : DC} {rs : List RV} (hS : GR.ok P S) (hf : Fn P f N dc rs) {n : Nat} {F : List D → List D → Option (D × List D)} (hn : 0 < n) (g : ∀ cs v y, F cs v = some y → v.length + 1 ≤ N)
  (h : ∀ (i : Id) (m : GV) (fr : Id) (cs v : List D) (r : D) (t : List D), Ai m i 0 n = some cs → F cs v = some (r, t) → (∀ j o, fr <:+ j → m j o = none) → (∀ k l, (i = l ++ k :: fr) = False) → (∀ k, (i = k :: fr) = False) →
   dc.wp S fr (DV rs fun d m' => d = r ∧ Ai m' i 0 n = some t ∧ Fe n i m m') ⟨Bz (.ptr i 0 :: v), m, 0⟩) : (mQ n F).ok P f := by
 refine GI hS hf aRi (fun ds m fr r u w na => ?_)
 obtain ⟨i, v, cs, t, rfl, sa, hF, rfl⟩ := aRj w
 have z : ∃ x, m i 0 = some x := by
  obtain ⟨h1, q⟩ := BL sa
  have := q 0 hn
  rw [Qj O] at this
  exact ⟨_, this⟩
 obtain ⟨x0, b⟩ := z
 have s : ∀ k l, (i = l ++ k :: fr) = False := fun k l => eq_false (fun e => by
  rw [e, na _ _ ⟨l ++ [k], U⟩] at b
  cases b)
 refine ⟨g _ _ _ hF, ?_⟩
 have hw := h i m fr cs v r t sa hF na s (fun k => s k [])
 refine Ri hw (fun e ca he => ?_)
 obtain ⟨c, d, ga, rfl, qa, ho⟩ := he
 refine ⟨c, d, ga, rfl, fun j o x p => ?_⟩
 obtain ⟨h1, q⟩ := BL qa
 have oa : (m.put i 0 t) j o = some x := p
 by_cases hj : j = i
 ·subst hj
  by_cases a : o < n
  ·grind [GV.put]
  ·have ta : m j o = some x := by
    simp only [GV.put] at oa
    rw [if_neg XI] at oa
    exact oa
   exact ho j o x (.inr O) ta
 ·rw [aB hj] at oa
  exact ho j o x (.inl hj) oa
section
variable{α:Type}{mk:α->List D}{ok:α->Prop}{res:α->D}
open Classical in
def FX(mk:α->List D)(ok:α->Prop)(res:α->D):List D->Option D:=λds=>if h:∃a,ok a∧mk a=ds then some (res (Classical.choose h))else none
def BG(inj:∀a b,mk a=mk b->a=b){a:α}(x:ok a):FX mk ok res (mk a)=some (res a):=by
 have h:∃b,ok b∧mk b=mk a:=⟨a,x,rfl⟩;unfold FX;rw[dif_pos h,inj _ _ (Classical.choose_spec h).2]
def Dy{ds:List D}{r:D}(h:FX mk ok res ds=some r):∃a,ok a∧mk a=ds∧res a=r:=by
 unfold FX at h;split at h
 ·grind
 ·cases h
def B1{P:Program}{S:GR}{f:FuncId}{N:Nat}{b:DC}{rs:List RV}(v:GR.ok P S)(o:Fn P f N b rs)(e:∀a,(mk a).length<=N)
  (j:∀a,ok a->b.wp S [] (DV rs λd _=>d.unR=res a∧(res a).calmR=true) ⟨Bz (mk a),λ_ _=>none,0⟩):(Ac (FX mk ok res)).ok P f:=by
 refine AB v o (λds r h=>?_) (λds r h=>?_)
 ·obtain⟨a,_,rfl,_⟩:=Dy h;exact e a
 ·obtain⟨a,x,rfl,rfl⟩:=Dy h;exact j a x
end
def mkJ(p:List (List UInt8)×List UInt8):List D:=[.slice false [] (p.1.map .str),.str p.2]
def aI0(x y:List (List UInt8)×List UInt8)(e:mkJ x=mkJ y):x=y:=by
 simp only[mkJ,Qx,D.slice.injEq,D.str.injEq,true_and,and_true]at e;exact ZY ((List.map_inj_right (λa b h=>Xp)).1 e.1) e.2
def aNn:∀l:List (List UInt8),flat (l.map D.str)=l.map D.str
 |[]=>rfl
 |x::r=>by
  have ih:=aNn r;simp only[Q9,flat,ih];rfl
def dL:List D->Option D:=FX mkJ (λp=>p.1≠[]∧p.1.length<=1000∧C3 p.1<=1000000∧p.2.length<=1000∧(Lib.join p.1 p.2).length<=10000000) (λp=> .str (Lib.join p.1 p.2))
def aC0 {P:Program} {ρ:Go.Shelf.Ren} (L:Go.Proofs.Lays.n156 P ρ) (X:Go.Proofs.Builder.Extra P ρ) (ja:∃fn,P.funcs[ρ.f 156]?=some fn∧fn.body.isSome=true∧(fn.name== "runtime.NumGoroutine")=false):(Ac dL).ok P (ρ.f 156):=by
 refine⟨ja,λds m m' fr _=>rfl,?_⟩;intro B w0 w m g fr ds vs r u hi t hl fa p;simp only[Ac]at p;split at p
 ·rename_i ma;rw[Qk]at p;obtain⟨r',hr,p⟩:=p;simp only[Qq]at p;obtain⟨rfl,rfl⟩:=p;obtain⟨⟨l,s⟩,⟨k,q,h3,h4,h5⟩,y,rfl⟩:=Dy hr;simp only at k q h3 h4 h5;have na:∀(j:Nat) d v,(mkJ (l,s))[j]?=some d->vs[j]?=some v->Rep w g d v:=by
   intro j d v hd hv;rw[y,QI,Qk]at hd;obtain⟨d',qa,rfl⟩:=hd;exact(fa j d' v qa hv).un
  have ea:ds.length=2:=by
   have:=congrArg ZF y;simpa[mkJ]using this.symm
  match vs,hl.trans ea with
  |[v,v1],_=>
   have r0:=na 0 _ v rfl rfl;have r1:=na 1 _ v1 rfl rfl;rw[r1.str_inv];obtain⟨ad,n,c,sz,ws,rfl,hn,fb,pa,bb,o,wa,_⟩:=r0.slice_list;have ra:n=l.length:=by simpa using hn
   subst ra;have qb:sz=1:=by
    cases l with
    |nil=>exact absurd rfl k
    |cons x r=>exact(pa (.str x) U).symm
   subst qb;have oa:=aNn l;rw[oa]at o;have ha:∀(j:Nat) z,l[j]?=some z->w.cell? (ad.add j)=some (.string ⟨z.toArray⟩):=by
    intro j z hz;have hj:j<l.length:=(Qt.1 hz).1;have e:j<ws.length:=by rw[bb];omega
    have hd:(l.map D.str)[j]?=some (.str z):=by rw[QI,hz];rfl
    have:=o.2.2 j (.str z) ws[j] hd (Qj e);rw[wa j ws[j] (Qj e),this.str_inv]
   obtain⟨b,off,jb⟩:=ad;have va:0<l.length:=Zl.2 k;have ga:=ha 0 _ (Qj va);have a:jb=none:=by simpa[Addr.add]using World.cell?_spot ga
   subst a;have ka:b<w.heap.size:=by simpa[Addr.add]using World.block_lt_of_cell? _ _ ga
   have aa:(l.map λx=>(⟨x.toArray⟩:ByteArray)).map (·.data.toList)=l:=YI
   have hj:(⟨s.toArray⟩:ByteArray).data.toList=s:=rfl;have:=Go.Proofs.Any.strings_Join L X b off c (l.map λx=>(⟨x.toArray⟩:ByteArray)) ⟨s.toArray⟩ w (λj x hx=>by
    rw[QI,Qk]at hx;obtain⟨z,hz,rfl⟩:=hx;have:=ha j z hz;rw[D8]at this;exact this) ka Xc Xc (by rw[aa,hj];omega)
   rw[aa,hj,Qu]at this;refine this.mono ?_;rintro ev w' ⟨rfl,hb⟩;exact⟨_,g.over w w',rfl,hi.over hb,Hk.over hi.gz hb,.str _,λi hf _=>hf⟩
 ·cases p
section
variable{α:Type}{mk:α->List D×List D}{ok:α->Prop}{res:α->D×List D}
end
section
variable{α:Type}{mk:α->List D×List D}{ok:α->Prop}{res:α->D×Id×(Id->List D)}
end
def aRn{R:St->Ex->St->Prop}(g:∀z p s m w,R z p s->R z m w->p=m∧s=w):∀{n1 z p s},Lp R n1 z p s->∀{n2 m w},Lp R n2 z m w->p=m∧s=w:=by
 intro n1 z p s u;induction u with
 |stop z e o h f=>
  intro n2 m w q;cases q with
  |stop _ _ _ j _=>exact g _ _ _ _ _ h j
  |more n _ d _ _ j _=>exact absurd (g _ _ _ _ _ h j).1 f
 |more n z d e o h hl ih=>
  intro n2 m w q;cases q with
  |stop _ _ _ j f=>exact absurd (g _ _ _ _ _ h j).1.symm f
  |more a _ x _ _ j v=>
   have:=(g _ _ _ _ _ h j).2;subst this;exact ih v
def aSN{S:GR}{ns:Id}:∀{x:DC} {z:St} {p:Ex} {s:St} {m:Ex} {w:St},Ev S ns x z p s->Ev S ns x z m w->p=m∧s=w:=by
 intro x;induction x with
 |skip=>rintro z p s m w ⟨rfl,rfl⟩ ⟨rfl,rfl⟩;exact⟨rfl,rfl⟩
 |ret=>rintro z p s m w ⟨rfl,rfl⟩ ⟨rfl,rfl⟩;exact⟨rfl,rfl⟩
 |exit i=>rintro z p s m w ⟨rfl,rfl⟩ ⟨rfl,rfl⟩;exact⟨rfl,rfl⟩
 |row ops=>
  rintro z p ⟨a1,g,c1⟩ m ⟨t,b2,c2⟩ ⟨rfl,u,k⟩ ⟨rfl,q,y⟩;rw[u]at q;simp only[Qi,Qq]at q;simp only at k y;exact⟨rfl,by rw[q.1,q.2,k,y]⟩
 |drawn ops ps=>
  rintro z p ⟨a1,g,c1⟩ m ⟨t,b2,c2⟩ ⟨rfl,⟨f1,u,_⟩,k⟩ ⟨rfl,⟨f2,q,_⟩,y⟩;rw[u]at q;simp only[Qi,Qq]at q;simp only at k y;exact⟨rfl,by rw[q.1,q.2.1,k,y]⟩
 |seq a b d e=>
  rintro z p s m w ⟨f,y1,u,r⟩ ⟨v,y2,q,k2⟩;obtain⟨rfl,rfl⟩:=d u q;rcases r with ⟨n1,r⟩|⟨n1,rfl,rfl⟩<;>rcases k2 with ⟨n2,k2⟩|⟨n2,rfl,rfl⟩
  ·exact e r k2
  ·exact absurd n1 n2
  ·exact absurd n2 n1
  ·exact Qg
 |cond c a b d e=>
  rintro z p s m w u q;rcases u with ⟨j,u⟩|⟨j,u⟩<;>rcases q with ⟨o,q⟩|⟨o,q⟩
  ·exact d u q
  ·rw[j]at o;simp at o
  ·rw[j]at o;simp at o
  ·exact e u q
 |block i c ih=>
  rintro z p s m w ⟨f,u,r⟩ ⟨v,q,k2⟩;obtain⟨rfl,rfl⟩:=ih u q;rcases r with ⟨n1,rfl⟩|⟨n1,rfl⟩<;>rcases k2 with ⟨n2,rfl⟩|⟨n2,rfl⟩
  ·exact Qg
  ·exact absurd n1 n2
  ·exact absurd n2 n1
  ·exact Qg
 |loop c ih=>
  rintro z p s m w ⟨n1,u⟩ ⟨n2,q⟩;exact aRn (R:=Ev S ns c) (λz p s m w h n=>@ih z p s m w h n) u q
def So{S:GR}{ns:Id}{b:DC}{rs:List RV}{i f:D->GV->Prop}{z:St}(u:b.wp S ns (DV rs i) z)(q:b.wp S ns (DV rs f) z):∃d m,i d m∧f d m:=by
 obtain⟨p,s,t,_,d1,k,r⟩:=u;obtain⟨j,w,v2,_,d2,q2,a⟩:=q;obtain⟨rfl,rfl⟩:=aSN t v2;rw[k]at q2;simp only[Qi]at q2;subst q2;exact⟨_,_,r,a⟩
def aBi(S:GR)(b:DC)(rs:List RV)(N:Nat)(ds:List D)(r:D):Prop:=ds.length<=N∧b.wp S [] (DV rs λd _=>d.unR=r∧r.calmR=true) ⟨Bz ds,λ_ _=>none,0⟩
open Classical in
def RF(S:GR)(b:DC)(rs:List RV)(N:Nat):List D->Option D:=λds=>if h:∃r,aBi S b rs N ds r then some (Classical.choose h)else none
def aBv{S:GR}{b:DC}{rs:List RV}{N:Nat}{ds:List D}{r:D}(h:RF S b rs N ds=some r):aBi S b rs N ds r:=by
 unfold RF at h;split at h
 ·grind
 ·cases h
def Aq{S:GR}{b:DC}{rs:List RV}{N:Nat}{ds:List D}{r:D}(e:ds.length<=N)(h:b.wp S [] (DV rs λd _=>d.unR=r∧r.calmR=true) ⟨Bz ds,λ_ _=>none,0⟩):RF S b rs N ds=some r:=by
 have f:∃r,aBi S b rs N ds r:=⟨r,e,h⟩;unfold RF;rw[dif_pos f];obtain⟨d,_,u,q⟩:=So (Classical.choose_spec f).2 h;rw[←u.1,q.1]
def Av{P:Program}{S:GR}{f:FuncId}{N:Nat}{b:DC}{rs:List RV}(o:Fn P f N b rs)(v:GR.ok P S):(Ac (RF S b rs N)).ok P f:=
 AB v o (λds r h=>(aBv h).1) (λds r h=>(aBv h).2)
theorem Ht{m:GV}{i:Id}{ds:List D}{n:Nat}(h:ds.length=n):Ai (m.put i 0 ds) i 0 n=some ds:=by
 subst h;exact Vc (λk d z=>by rw[aG (Qt.1 z).1,z])
def By{S:GR}{ns:Id}{b:DC}{Q:Ex->St->Prop}{n:Nat}{I:Nat->St->Prop}(y:∀j,j<n->(∀z g,I (j+1) z->AK S ns b Q z g)->∀z g,I j z->AK S ns b Q z g)(q:∀z g,I n z->AK S ns b Q z g):∀j,j<=n->∀z g,I j z->AK S ns b Q z g:=by
 have key:∀f j,n=j+f->∀z g,I j z->AK S ns b Q z g:=by
  intro f;induction f with
  |zero=>
   intro j w z g a;have:j=n:=O
   subst this;exact q z g a
  |succ f ih=>intro j w z g a;exact y j O (λz g h=>ih (j+1) O z g h) z g a
 exact λj w=>key (n-j) j O
def aBh(S:GR)(b:DC)(rs:List RV)(N n:Nat)(cs v:List D)(y:D×List D):Prop:=cs.length=n∧v.length+1<=N∧∀(i:Id)(m:GV)(fr:Id),Ai m i 0 n=some cs->(∀j o,fr<:+j->m j o=none)->(∀k l,(i=l++k::fr)=False)->(∀k,(i=k::fr)=False)->
 b.wp S fr (DV rs λd m'=>d=y.1∧Ai m' i 0 n=some y.2∧Fe n i m m') ⟨Bz (.ptr i 0::v),m,0⟩
def aIN(cs:List D)(n:Nat)(hl:cs.length=n)(c:0<n):∃m:GV,Ai m [0] 0 n=some cs∧(∀j o,[1]<:+j->m j o=none)∧(∀k l,(([0]:Id)=l++k::[1])=False)∧(∀k,(([0]:Id)=k::[1])=False):=by
 refine⟨GV.put (λ_ _=>none) [0] 0 cs,Ht hl,λj o w=>?_,λk l=>eq_false (λe=>?_),λk=>eq_false (λe=>by simp at e)⟩
 ·rw[aB];rintro rfl;obtain⟨t,s⟩:=w;have:=congrArg ZP s;simp at this
 ·have:=congrArg ZP e;simp at this
open Classical in
def RM(S:GR)(b:DC)(rs:List RV)(N n:Nat):List D->List D->Option (D×List D):=λcs v=>if h:∃y,aBh S b rs N n cs v y then some (Classical.choose h)else none
def aBr{S:GR}{b:DC}{rs:List RV}{N n:Nat}{cs v:List D}{y:D×List D}(h:RM S b rs N n cs v=some y):aBh S b rs N n cs v y:=by
 unfold RM at h;split at h
 ·grind
 ·cases h
def aUZ{S:GR}{b:DC}{rs:List RV}{N n:Nat}{cs v:List D}{y:D×List D}(c:0<n)(hl:cs.length=n)(e:v.length+1<=N) (h:∀(i:Id)(m:GV)(fr:Id),Ai m i 0 n=some cs->(∀j o,fr<:+j->m j o=none)->(∀k l,(i=l++k::fr)=False)->(∀k,(i=k::fr)=False)->
  b.wp S fr (DV rs λd m'=>d=y.1∧Ai m' i 0 n=some y.2∧Fe n i m m') ⟨Bz (.ptr i 0::v),m,0⟩):RM S b rs N n cs v=some y:=by
 have f:∃y,aBh S b rs N n cs v y:=⟨y,hl,e,h⟩;unfold RM;rw[dif_pos f];obtain⟨m,a,w,x,g⟩:=aIN cs n hl c;obtain⟨d,m',u,q⟩:=So ((Classical.choose_spec f).2.2 [0] m [1] a w x g) (h [0] m [1] a w x g);have p:=u.1.symm.trans q.1;have t:=u.2.1.symm.trans q.2.1;simp only[Qi]at t;rw[show Classical.choose f=y from ZY p t]
def aUY{P:Program}{S:GR}{f:FuncId}{N n:Nat}{b:DC}{rs:List RV}(o:Fn P f N b rs)(c:0<n)(x:GR.ok P S):(mQ n (RM S b rs N n)).ok P f:=by
 refine bAd x o c (λcs v y d=>(aBr d).2.1) (λi m fr cs v r t k j na u q=>?_);exact(aBr j).2.2 i m fr k na u q
end Go.Vd
namespace Go.Vd
open Go.Proofs Go.RowKit
def aWm{x:D}{l:List D}{n:Nat}:(x::l).take (n+1)=x::l.take n:=rfl
def aWn{l:List D}:l.take 0=[]:=rfl
def aWC{l:List D}:l.drop 0=l:=rfl
def aWB{x:D}{l:List D}{n:Nat}:(x::l).drop (n+1)=l.drop n:=rfl
def aZ7{x:D}{f:D->Option (List D)}:(some x).bind f=f x:=rfl
def aWt{f:D->Option (List D)}:(none:Option D).bind f=none:=rfl
def aZ6{x:List D}{f:List D->List D}:(some x).map f=some (f x):=rfl
def aWs{x:List D}{f:List D->D}:(some x).map f=some (f x):=rfl
def aWr{x:D}{f:D->D}:(some x).map f=some (f x):=rfl
def aWq{x:D}{f:D->List D}:(some x).map f=some (f x):=rfl
def aZ8{x:List D}:(some x).isSome=true:=rfl
def aWx{x:D}:(some x).isSome=true:=rfl
def bAa{a b:Nat}{l z:List Nat}:(a::l=b::z)=(a=b∧l=z):=U
def aWD{a:Nat}{l:List Nat}:(a::l=[])=False:=U
def bAb:(true=false)=False:=U
def bAc:(false=true)=False:=U
def aWw{m:GV}{n:Nat}{i:Id}{o:Nat}:WF m (some n) (.ptr i o)=(Ai m i o n).map .agg:=rfl
def aWv{m:GV}{i:Id}{o:Nat}:WF m none (.ptr i o)=m i o:=rfl
def aIA{s:Nat->D}{m:GV}{k:Option Nat}{a b:Nat}:B6 [.t b,.cell k a] s m=(WF m k (s a)).map λd=> .tup [s b,d]:=by
 simp only[B6,Fj,RV.of];cases WF m k (s a)<;>rfl
def aBz{s:Nat->D}{m:GV}{k:Option Nat}{a b c:Nat}:B6 [.cell k a,.t b,.t c] s m=(WF m k (s a)).map λd=> .tup [d,s b,s c]:=by
 simp only[B6,Fj,RV.of];cases WF m k (s a)<;>rfl
def Va{s:Nat->D}{m:GV}{k:Option Nat}{a b c e:Nat}:B6 [.cell k a,.t b,.t c,.t e] s m=(WF m k (s a)).map λd=> .tup [d,s b,s c,s e]:=by
 simp only[B6,Fj,RV.of];cases WF m k (s a)<;>rfl
def Iv{s:Nat->D}{m:GV}{k:Option Nat}{a b:Nat}:B6 [.cell k a,.t b] s m=(WF m k (s a)).map λd=> .tup [d,s b]:=by
 simp only[B6,Fj,RV.of];cases WF m k (s a)<;>rfl
def aWA{cs:List D}:Bw cs []=some cs:=rfl
def aZ9{cs:List D}{o n:Nat}{d:D}{r:List (Nat×Nat×D)}:Bw cs ((o,n,d)::r)=if d.data=true∧d.cells.length=n∧o+n<=cs.length then Bw (Eh cs o d.cells) r else none:=rfl
def aZ5{cs ds:List D}{o:Nat}:Eh cs o ds=cs.take o++ds++cs.drop (o+ds.length):=rfl
def aWu{nl:Bool}{t u:Id}{xs:List D}:ID 0 (.slice nl t xs) (.slice true u [])=some nl:=by cases nl<;>rfl
def aWH:(true !=false)=true:=rfl
def aWG:(false !=false)=false:=rfl
def aWF:(true !=true)=false:=rfl
def aWE:(false !=true)=true:=rfl
def aWy{m:GV}{e:Nat}{f t:Id}{xs:List D}:Ha.app m (Be e f (.slice true t xs))=m.put f 0 [.tok (e+1)]:=rfl
def aWz{m:GV}{e:Nat}{f t:Id}{xs:List D}:Ha.app m (Be e f (.slice false t xs))=(m.put t 0 [.tok 0]).put f 0 [.tok (e+1)]:=rfl
def aWp{x y:D}{l:List D}:(x::l).set 0 y=y::l:=rfl
def aWo{x y:D}{l:List D}{n:Nat}:(x::l).set (n+1) y=x::l.set n y:=rfl
set_option linter.defProp false
def GS:=Qh @Aj <| Qh @Ar <| Qh @As <| Qh @Bo <| Qh @Iv <| Qh @aIA <| Qh @aBz <| Qh @Va <| Qh @aWw <| Qh @aWv <| Qh @aWm <| Qh @aWn <| Qh @aWC <| Qh @aWB <| Qh @aZ7 <| Qh @aWt <| Qh @aZ6 <| Qh @aWs <| Qh @aWr <| Qh @aWq <| Qh @aZ8 <| Qh @aWx <| Qh @bAa <| Qh @aWD <| Qh @bAb <| Qh @bAc <| Qh @QY <| Qh @Ze <| Qh @QE <| Qh @true_and <| Qh @and_true <| Qh @false_and <| Qh @and_false <| Qh @and_self <| Qh @QG <| Qh @Q0 <| Qh @Q6 <| Qh @Nat.add_eq_right <| Qh @Bool.true_or <| Qh @Bool.or_true <| Qh @ZQ <| Qh @ZR <| Qh @ZN <| Qh @ZK <| Qh @not_true_eq_false <| Qh @not_false_eq_true <| Qh @aWA <| Qh @aZ9 <| Qh @aZ5 <| Qh @aWp <| Qh @aWo <| Qh @aWu <| Qh @aWy <| Qh @aWz <| Qh aWH <| Qh aWG <| Qh aWF aWE
def gZ1:=Qh Hb GS
abbrev Rw:=Int×Bool×Bool
def rwD(r:Rw):D:= .agg [.int .i64 r.1,.bool r.2.1,.bool r.2.2]
def BS(l:List Rw):List D:=l.map rwD
def A5(l:List Rw):(BS l).length=l.length:=Qu ..
def GE{l:List Rw}{j:Nat}(h:j<l.length):(BS l)[j]?=some (.agg [.int .i64 l[j].1,.bool l[j].2.1,.bool l[j].2.2]):=by simp[BS,rwD,Qj h]
structure Sc where
 mx:Int
 cas:Bool
 la:Int
 nl:Bool
 rs:List Rw
def Hw(s:Sc):List D:=[.int .i64 s.mx,.bool s.cas,.int .i64 s.la,.slice s.nl [] (BS s.rs)]
def Iu:List Rw->Int->Bool
 |[],_=>true
 |x::r,a=>decide (a<x.1)&&Iu r x.1
def Cr(s:Sc)(q:Int):Int:=if s.mx=0 then q else s.mx
def RL(l:List Rw):Int:=match l.getLast? with
 |some x=>x.1
 |none=>0
def EJ(s:Sc)(q:Int):Bool:=!decide (1<=q∧q<=6)||(!decide (0<=s.mx∧s.mx<=6)||(!decide (0<=s.la∧s.la<=30)||(decide (Cr s q<s.rs.length)||(!Iu s.rs 0||!decide (RL s.rs=s.la)))))
def iZ(s:Sc)(q:Int):Int:=if EJ s q=true then 2 else 0
def bAM:=Az []
def aTJ:=RF bAM aN7 [.t 2] 5
def aW7:Kq aTJ 276:=Av (Al func276) Ae
def aKL(r:Rw):aTJ [.agg [.int .i64 r.1,.bool r.2.1,.bool r.2.2]]=some (.int .i64 r.1):=by
 refine Aq (QJ rfl) ?_;unfold aN7;simp only[↓GQ,GT,GS,simprocAttr]
 all_goals exact Qd
def bAJ:=Az []
def aKD:=RF bAJ aNN [.cell (some 2) 0] 2
def aMT:Kq aKD 360:=Av (Al func360) Ae
def sB:aKD []=some (.agg [.int .i64 6,.bool false]):=by
 refine Aq (QJ rfl) ?_;unfold aNN;simp only[↓GQ,GT,GS,simprocAttr]
 all_goals exact Qd
def bAQ:=Az []
def aTT:=RF bAQ aOu [.cell (some 2) 0] 2
def aXm:Kq aTT 319:=Av (Al func319) Ae
def aKX:aTT []=some (.agg [.int .i64 6,.bool false]):=by
 refine Aq (QJ rfl) ?_;unfold aOu;simp only[↓GQ,GT,GS,simprocAttr]
 all_goals exact Qd
def bAN:=Az []
def aKN:=RF bAN rD [.t 4] 12
def aMV:Kq aKN 274:=Av aNi Ae
def sD(s:Sc)(q:Int)(b:Bool):aKN [.agg (Hw s),.agg [.int .i64 q,.bool b]]=some (.int .i64 (Cr s q)):=by
 refine Aq (QJ rfl) ?_;unfold rD;unfold Cr Hw;by_cases h:s.mx=0
 ·simp only[↓GQ,GT,GS,simprocAttr,h]
  all_goals exact Qd
 ·simp only[↓GQ,GT,GS,simprocAttr,h]
  all_goals exact Qd
def aTk:=Az [(276,Ac aTJ)]
def aTK:=RF aTk rC [.t 4] 23
def aW8:Kq aTK 275:=Av aNh (Aa aW7 Ae)
def aKM{nl:Bool}{l:List Rw}(hl:l.length<=1000):aTK [.slice nl [] (BS l),.fn 276 []]=some (.bool (Iu l 0)):=by
 refine Aq (QJ rfl) ?_;unfold rC;simp only[↓GQ,GX,simprocAttr,A5];refine By (n:=l.length) (I:=λj z=>z.s 8= .slice nl [] (BS l)∧z.s 9= .int .i64 l.length∧z.s 10= .int .i64 (j:Int)∧z.s 1= .fn 276 []∧∃a,z.s 5= .int .i64 a∧Iu (l.drop j) a=Iu l 0) (λj d ih z g hI=>?_) (λz g hI=>?_) 0 (QY _) _ _ ⟨rfl,rfl,rfl,rfl,0,rfl,rfl⟩
 ·obtain⟨m,ga,r⟩:=z;obtain⟨o,y,w,u,a,k,q⟩:=hI;simp only at o y w u k;refine Af PF.eq_1 ?_;have v:((j:Int)<l.length):=by omega
  have ma:=nJ (j:=j);have p:=wJ (j:=j) O;have ia:=GE d;have t:l.drop j=l[j]::l.drop (j+1):=Q7 d;have b:=aKL l[j];rw[t]at q;generalize l[j]=x at ia q b t;by_cases f:x.1<=a
  ·have e:Iu l 0=false:=by rw[←q];simp[Iu];omega
   simp only[↓GQ,GT,GS,simprocAttr,o,y,w,u,k,v,ma,Qp,ia,Ad aTk 276,b,f];rw[e]
   all_goals exact Qd
  ·have e:Iu (l.drop (j+1)) x.1=Iu l 0:=by rw[←q];simp only[Iu];rw[decide_eq_true O];rfl
   simp only[↓GQ,GT,GS,simprocAttr,o,y,w,u,k,v,ma,Qp,ia,Ad aTk 276,b,f,p];exact ih _ _ ⟨o,y,rfl,u,_,rfl,e⟩
 ·obtain⟨o,y,w,u,a,k,q⟩:=hI;refine Af PF.eq_1 ?_;have e:Iu l 0=true:=by rw[←q];simp[Iu]
  simp only[↓GQ,GT,GS,simprocAttr,y,w,Zy];rw[e]
  all_goals exact Qd
def FT:GR:=Az [(273,Ac aAy),(274,Ac aKN),(275,Ac aTK)]
def nB:List D->Option D:=RF FT rH [.t 4] 52
def dI:Kq nB 207:=Av aNm (Aa aMC (Aa aMV (Aa aW8 Ae)))
def ND(s:Sc)(q:Int)(b:Bool)(hl:s.rs.length<=1000):nB [.agg (Hw s),.agg [.int .i64 q,.bool b]]=some (.int .i64 (iZ s q)):=by
 refine Aq (QJ rfl) ?_;unfold rH;have d:=sD s q b;have f:=aKM (nl:=s.nl) (l:=s.rs) hl;have c:∀x a b:Int,aAy [.int .i64 x,.int .i64 a,.int .i64 b]=some (.bool (decide (a<=x∧x<=b))):=λ_ _ _=>rfl
 have v:IntKind.i64.wrap ((s.rs.length:Int)-1)=(s.rs.length:Int)-1:=Hg O O;have i:0<s.rs.length->∃x:Rw,RL s.rs=x.1∧(BS s.rs)[((s.rs.length:Int)-1).toNat]?=some (.agg [.int .i64 x.1,.bool x.2.1,.bool x.2.2]):=λh=>by
  have u:((s.rs.length:Int)-1).toNat=s.rs.length-1:=O
  refine⟨s.rs[s.rs.length-1],?_,by rw[u];exact GE O⟩;unfold RL;rw[List.getLast?_eq_getElem?,Qj O]
 have y:¬0<s.rs.length->RL s.rs=0:=λh=>by
  have:s.rs=[]:=Zr.1 O;rw[this];rfl
 unfold iZ EJ;unfold Hw at d ⊢;generalize Cr s q=z at d;generalize Iu s.rs 0=t at f;generalize RL s.rs=w at i y;by_cases c1:1<=q∧q<=6
 case neg=>
  simp only[↓GQ,GT,GS,simprocAttr,Ad FT 273,c,c1]
  all_goals exact Qd
 by_cases c2:0<=s.mx∧s.mx<=6
 case neg=>
  simp only[↓GQ,GT,GS,simprocAttr,Ad FT 273,c,c1,c2]
  all_goals exact Qd
 by_cases n:0<=s.la∧s.la<=30
 case neg=>
  simp only[↓GQ,GT,GS,simprocAttr,Ad FT 273,c,c1,c2,n]
  all_goals exact Qd
 by_cases k:z<s.rs.length
 case pos=>
  simp only[↓GQ,GT,GS,simprocAttr,Ad FT 273,c,Ad FT 274,d,c1,c2,n,k,A5];refine AJ ?_;simp only[↓GQ,GT,GS,simprocAttr,k]
  all_goals exact Qd
 cases t with
 |false=>
  simp only[↓GQ,GT,GS,simprocAttr,Ad FT 273,c,Ad FT 274,d,Ad FT 275,f,c1,c2,n,k,A5];refine AJ ?_;simp only[↓GQ,GT,GS,simprocAttr,k]
  all_goals exact Qd
 |true=>
  by_cases o:0<s.rs.length
  ·obtain⟨x,p,m⟩:=i o;have g:(0:Int)<(s.rs.length:Int):=by omega
   have j:(0:Int)<=(s.rs.length:Int)-1:=O
   subst p;by_cases r:x.1=s.la
   ·simp only[↓GQ,GT,GS,simprocAttr,Ad FT 273,c,Ad FT 274,d,Ad FT 275,f,c1,c2,n,k,r,A5];refine AJ ?_;simp only[↓GQ,GT,GS,simprocAttr,c1,c2,n,k,g,j,v,m,r,A5]
    all_goals exact Qd
   ·simp only[↓GQ,GT,GS,simprocAttr,Ad FT 273,c,Ad FT 274,d,Ad FT 275,f,c1,c2,n,k,r,A5];refine AJ ?_;simp only[↓GQ,GT,GS,simprocAttr,c1,c2,n,k,g,j,v,m,r,A5]
    all_goals exact Qd
  ·have p:=y o;have g:¬(0:Int)<(s.rs.length:Int):=by omega
   subst p;by_cases r:(0:Int)=s.la
   ·have e:((0:Int)=s.la)=True:=eq_true r;simp only[↓GQ,GT,GS,simprocAttr,Ad FT 273,c,Ad FT 274,d,Ad FT 275,f,c1,c2,n,k,e,A5];refine AJ ?_;simp only[↓GQ,GT,GS,simprocAttr,c1,c2,n,k,g,e,A5]
    all_goals exact Qd
   ·have e:((0:Int)=s.la)=False:=eq_false r;simp only[↓GQ,GT,GS,simprocAttr,Ad FT 273,c,Ad FT 274,d,Ad FT 275,f,c1,c2,n,k,e,A5];refine AJ ?_;simp only[↓GQ,GT,GS,simprocAttr,c1,c2,n,k,g,e,A5]
    all_goals exact Qd
def aYg:=y0 f21 [] []
def aPD:=y0 f56 [] []
def aPC:=y0 f59 [] []
def aX1:=y0 f57 [] []
def PV:=y1 f117 3 [] []
def aOZ:=y0 f117 [] [(3,PV)]
def aOY:=y0 f118 [] []
def aPA:=y0 f154 [(2,[(5,1),(5,8),(6,1),(6,8)])] []
def aX0:=y0 f58 [] []
def aOX:=y0 f119 [] []
def aJ3:=y1 f220 3 [] []
def aJ2:=y1 f220 11 [] []
def aYt:=y0 f220 [] [(3,aJ3),(11,aJ2)]
def aYe:=y0 f155 [] []
def aYo:=y0 f22 [] []
def aYn:=y0 f355 [] []
def PZ:=y1 f103 3 [] []
def aPp:=y0 f103 [] [(3,PZ)]
def Gu{a b:Bs}:AQ .lss (.str a) (.str b)=some (.bool (Op.bytesLess a b)):=Xm
def aAN{a b:Bs}:AQ .gtr (.str a) (.str b)=some (.bool (!(Op.bytesLess a b||a==b))):=Xm
def C6(a b:Bs):Int:=if Op.bytesLess a b=true then-1 else if a=b then 0 else 1
def aLM:List D->Option D
 |[.str s]=>some (.bool false)
 |_=>none
def aVP:Kq aLM 139:=by
 refine AB (S:=λ_=>none) AO (Al func139:Fn Qo 139 6 aOM [.t 2]) (λds r h=>?_) (λds r h=>?_)
 ·unfold aLM at h;split at h
  ·simp
  ·cases h
 ·unfold aLM at h;split at h
  ·rename_i s;simp only[Qi]at h;subst h;unfold aOM;simp only[↓GQ,GT,reduceIte,Qm,Qn,and_self]
  ·cases h
def Ph:List D->Option D
 |[.str a,.str b]=>some (.int .i64 (C6 a b))
 |_=>none
def pY:Kq Ph 80:=by
 obtain⟨S,v,hl⟩:=A4 (Aa aVP Ae);have d:=hl 139 _ rfl;clear hl;refine AB (S:=S) v (Al func80:Fn Qo 80 20 aPG [.t 4]) (λds r h=>?_) (λds r h=>?_)
 ·unfold Ph at h;split at h
  ·simp
  ·cases h
 ·unfold Ph at h;split at h
  ·rename_i a b;simp only[Qi]at h;subst h;unfold aPG;have c:∀s,aLM [.str s]=some (.bool false):=λ_=>rfl
   unfold C6;cases hl:Op.bytesLess a b with
   |true=>simp only[↓GQ,GT,reduceIte,Qm,Qn,and_self,Ab d,c,Gu,hl]
   |false=>
    by_cases q:a=b
    ·subst q;have p:(a==a)=true:=by simp
     simp only[↓GQ,GT,reduceIte,Qm,Qn,and_self,Ab d,c,Gu,aAN,hl,p,ZQ]
    ·have p:(a==b)=false:=by simpa using q
     simp only[↓GQ,GT,reduceIte,Qm,Qn,and_self,Ab d,c,Gu,aAN,hl,p,q,ZR]
  ·cases h
def aAE:List D->Option D
 |[.agg [.str p,.int .i64 q,.bool b],.agg [.str p2,.int .i64 q2,.bool b2]]=>some (.int .i64 (C6 p p2))
 |_=>none
def aWf:Kq aAE 148:=by
 obtain⟨S,x,hl⟩:=A4 (Aa pY Ae);have v:=hl 80 _ rfl;clear hl;refine AB (S:=S) x (Al func148:Fn Qo 148 10 aPH [.t 4]) (λds r h=>?_) (λds r h=>?_)
 ·unfold aAE at h;split at h
  ·simp
  ·cases h
 ·unfold aAE at h;split at h
  ·rename_i p q b d q2 b2;simp only[Qi]at h;subst h;unfold aPH;have m:∀a b,Ph [.str a,.str b]=some (.int .i64 (C6 a b)):=λ_ _=>rfl
   simp only[↓GQ,Hb,reduceIte,Qm,Qn,Aj,QX,Qx,QG,Q0,Ab v,m]
  ·cases h
def aAC:List D->Option D
 |[.agg [.str n,.str p,.slice nl t xs],.str s]=>some (.int .i64 (C6 n s))
 |_=>none
def aVX:Kq aAC 118:=by
 obtain⟨S,x,hl⟩:=A4 (Aa pY Ae);have v:=hl 80 _ rfl;clear hl;refine AB (S:=S) x (Al func118:Fn Qo 118 9 aOY [.t 4]) (λds r h=>?_) (λds r h=>?_)
 ·unfold aAC at h;split at h
  ·simp
  ·cases h
 ·unfold aAC at h;split at h
  ·rename_i n p nl t xs s;simp only[Qi]at h;subst h;unfold aOY;have m:∀a b,Ph [.str a,.str b]=some (.int .i64 (C6 a b)):=λ_ _=>rfl
   simp only[↓GQ,Hb,reduceIte,Qm,Qn,Aj,QX,Ab v,m]
  ·cases h
abbrev Tk:=Bs×Bs×Bool×List Rl
def HD(k:Tk):D:= .agg [.str k.1,.str k.2.1,.slice k.2.2.1 [] (Am k.2.2.2)]
def Au(l:List Tk):List D:=l.map HD
def tkT:D->Tk
 | .agg [.str n,.str p,.slice nl _ xs]=>(n,p,nl,Bc xs)
 |_=>([],[],true,[])
def Cj(xs:List D):List Tk:=xs.map tkT
def Bg(l:List Tk):Cj (Au l)=l:=by
 simp only[Cj,Au,QL]
 conv=>rhs;rw[←ZG l]
 exact QC λr _=>by simp only[Function.comp,HD,tkT,AS,id]
theorem AD(l:List Tk):(Au l).length=l.length:=Qu ..
def AP(l:List Tk)(j:Nat):Tk:=l.getD j ([],[],true,[])
def Dp{l:List Tk}{j:Nat}(h:j<l.length):(Au l)[j]?=some (HD (AP l j)):=by
 grind [Au,AP]
def bsR(l:List Tk)(s:Bs):Nat->Nat->Nat->Nat
 |0,lo,_=>lo
 |f+1,lo,hi=>if lo<hi then(if C6 (AP l ((lo+hi) / 2)).1 s<0 then bsR l s f ((lo+hi) / 2+1) hi else bsR l s f lo ((lo+hi) / 2))else lo
def HT(l:List Tk)(s:Bs):Nat:=bsR l s l.length 0 l.length
def AN(l:List Tk)(s:Bs):Bool:=decide (HT l s<l.length)&&decide (C6 (AP l (HT l s)).1 s=0)
def aS2{lo hi:Nat}(h:lo+hi<1000000000):IntKind.i64.wrap ((IntKind.u64.wrap (IntKind.i64.wrap ((lo:Int)+(hi:Int)))).fdiv (2 ^ min (1:Int).toNat IntKind.u64.bits))=(((lo+hi) / 2:Nat):Int):=by
 have u:IntKind.i64.wrap ((lo:Int)+(hi:Int))=((lo+hi:Nat):Int):=Xg
 have q:IntKind.u64.wrap ((lo+hi:Nat):Int)=((lo+hi:Nat):Int):=by
  simp only[IntKind.wrap,IntKind.signed,IntKind.bits,Zo,QQ,if_false];omega
 have d:(((lo+hi:Nat):Int)).fdiv (2 ^ min (1:Int).toNat IntKind.u64.bits)=(((lo+hi) / 2:Nat):Int):=by
  rw[show(2:Int) ^ min (1:Int).toNat IntKind.u64.bits=2 from rfl,Q3 _ O];omega
 rw[u,q,d,Hg O O]
def aJq{S:GR}{ns:Id}{l:List Tk}{nl:Bool}{t:Id}{s:Bs}{Q:Ex->St->Prop}{e:Nat}(v:S 118=some (Ac aAC))(i:l.length<=1000000)
  (fa:∀z,z.s 0= .slice nl t (Au l)->z.s 1= .str s->z.s 2= .fn 118 []->z.s 8= .int .i64 (l.length:Int)->z.s 9= .int .i64 (e:Int)->Q (.exit 0) z):
  ∀(f lo hi:Nat) z g,hi<=lo+f->hi<=l.length->bsR l s f lo hi=e->z.s 0= .slice nl t (Au l)->z.s 1= .str s->z.s 2= .fn 118 []->z.s 8= .int .i64 (l.length:Int)->z.s 9= .int .i64 (lo:Int)->z.s 10= .int .i64 (hi:Int)->AK S ns PV Q z g:=by
 intro f;induction f with
 |zero=>
  intro lo hi z g hf hh m r y q h8 h9 w;refine Af PV.eq_1 ?_;have:¬((lo:Int)<hi):=O
  simp only[↓GQ,GX,Hf,reduceIte,Qm,Qn,h9,w,this];exact fa _ r y q h8 (by rw[←m];exact h9)
 |succ f ih=>
  intro lo hi z g hf hh m r y q h8 h9 w;refine Af PV.eq_1 ?_;unfold bsR at m;by_cases aa:lo<hi
  ·rw[if_pos aa]at m;have x:((lo:Int)<hi):=by omega
   have a:=aS2 (lo:=lo) (hi:=hi) O;have ua:(lo+hi) / 2<hi:=O
   have o:lo<=(lo+hi) / 2:=O
   generalize (lo+hi) / 2=mid at m a ua o;have ea:(0:Int)<=(mid:Int):=O
   have b:(0:Int)<=1:=O
   have hw:IntKind.i64.wrap ((mid:Int)+1)=((mid+1:Nat):Int):=Hg O O;have ia:=Dp (l:=l) (j:=mid) O;generalize AP l mid=k at ia m;obtain⟨n,p,ka,rs⟩:=k;replace ia:(Au l)[mid]?=some (.agg [.str n,.str p,.slice ka [] (Am rs)]):=ia;have u:aAC [.agg [.str n,.str p,.slice ka [] (Am rs)],.str s]=some (.int .i64 (C6 n s)):=rfl;simp only at m;generalize C6 n s=c at m u;obtain⟨ja,d,da⟩:=z;simp only at r y q h8 h9 w;by_cases hc:c<0
   ·rw[if_pos hc]at m;simp only[↓GQ,GT,reduceIte,Qm,Qn,r,y,q,h9,w,x,a,ea,b,hw,ia,hc,Qp,Ab v,u,Zu,Hs,QD,QS];exact ih (mid+1) hi _ _ O hh m r y q h8 rfl w
   ·rw[if_neg hc]at m;simp only[↓GQ,GT,reduceIte,Qm,Qn,r,y,q,h9,w,x,a,ea,b,ia,hc,Qp,Ab v,u,Zu,Hs,QD,QS];exact ih lo mid _ _ O O m r y q h8 h9 rfl
  ·rw[if_neg aa]at m;have x:¬((lo:Int)<hi):=by omega
   simp only[↓GQ,GX,Hf,reduceIte,Qm,Qn,h9,w,x];exact fa _ r y q h8 (by rw[←m];exact h9)
def Wa(l:List Tk)(s:Bs):∀(f lo hi:Nat),lo<=hi->bsR l s f lo hi<=hi
 |0,lo,hi,h=>by simpa[bsR]using h
 |f+1,lo,hi,h=>by
  unfold bsR;split
  ·split
   ·exact Wa l s f _ _ O
   ·exact QO (Wa l s f _ _ O) O
  ·exact h
open Classical in
def aLT:List D->Option D
 |[.slice _ _ xs,.str s,.fn 118 []]=>if xs=Au (Cj xs)∧xs.length<=1000000 then some (.tup [.int .i64 (HT (Cj xs) s:Int),.bool (AN (Cj xs) s)])else none
 |_=>none
open Classical in
def aLS{nl:Bool}{t:Id}{l:List Tk}{s:Bs}(hl:l.length<=1000000):aLT [.slice nl t (Au l),.str s,.fn 118 []]=some (.tup [.int .i64 (HT l s:Int),.bool (AN l s)]):=by
 have h:Au l=Au (Cj (Au l))∧(Au l).length<=1000000:=by rw[Bg,AD];exact⟨rfl,hl⟩
 show(if _ then _ else _)=_;rw[if_pos h,Bg]
def aVY:Kq aLT 117:=by
 obtain⟨S,x,hl⟩:=A4 (Aa aVX Ae);have v:=hl 118 _ rfl;clear hl;refine AB (S:=S) x (Al func117:Fn Qo 117 49 aOZ [.t 6,.t 7]) (λds r h=>?_) (λds r h=>?_)
 ·unfold aLT at h;split at h
  ·simp
  ·cases h
 ·unfold aLT at h;split at h
  ·rename_i nl t xs s;split at h
   ·rename_i g;obtain⟨f,hl⟩:=g;simp only[Qi]at h;subst h;generalize Cj xs=l at f;subst f;rw[AD]at hl;have ta:HT l s<=l.length:=Wa l s _ _ _ O;unfold aOZ;simp only[↓GQ,GX,reduceIte,Qm,Qn,AD];refine aJq (l:=l) (nl:=nl) (t:=t) (s:=s) (e:=HT l s) v hl (λz h0 y q w h9=>?_) l.length 0 l.length _ _ O O rfl rfl rfl rfl rfl rfl rfl;unfold AN;generalize HT l s=i at h9 ta;by_cases hi:i<l.length
    ·have o:((i:Int)<l.length):=by omega
     have ua:(0:Int)<=(i:Int):=O
     have ia:=Dp (l:=l) (j:=i) hi;generalize AP l i=k at ia;obtain⟨n,p,ka,rs⟩:=k;replace ia:(Au l)[i]?=some (.agg [.str n,.str p,.slice ka [] (Am rs)]):=ia;have u:aAC [.agg [.str n,.str p,.slice ka [] (Am rs)],.str s]=some (.int .i64 (C6 n s)):=rfl;simp only[↓GQ,GT,reduceIte,Qm,Qn,h0,y,q,w,h9,o,ua,ia,Qp,Ab v,u,Zu,Hs,QD,QS];simp[hi]
    ·have o:¬((i:Int)<l.length):=by omega
     simp only[↓GQ,GT,reduceIte,Qm,Qn,w,h9,o];simp[hi]
   ·cases h
  ·cases h
def oF(l:List Tk):(Au l).map D.un=Au l:=by rw[Au,QL];exact QC λ_ _=>rfl
def TC(l:List Tk):aF (Au l) 3=3:=XB
def Et(xs:List D):Prop:=xs=Au (Cj xs)∧xs.length<=1000000
def Ee{l:List Tk}(hl:l.length<=1000000):Et (Au l):=⟨by rw[Bg],Yd⟩
def D3{xs:List D}(h:Et xs):∃l:List Tk,xs=Au l∧l.length<=1000000∧Cj xs=l:=by
 refine⟨Cj xs,h.1,?_,rfl⟩;have:=h.2;rw[h.1,AD]at this;exact this
open Classical in
def F93:List D->Option D
 |[.agg [.slice _ _ xs],.str s]=>if Et xs then some (.tup [.int .i64 (HT (Cj xs) s:Int),.bool (AN (Cj xs) s)])else none
 |_=>none
open Classical in
def Tb{nl:Bool}{t:Id}{l:List Tk}{s:Bs}(hl:l.length<=1000000):F93 [.agg [.slice nl t (Au l)],.str s]=some (.tup [.int .i64 (HT l s:Int),.bool (AN l s)]):=by
 show(if _ then _ else _)=_;rw[if_pos (Ee hl),Bg]
def aIP:Kq F93 57:=by
 obtain⟨S,v,hl⟩:=A4 (Aa aVY Ae);have y:=hl 117 _ rfl;clear hl;refine AB (S:=S) v (Al func57:Fn Qo 57 12 aX1 [.t 4,.t 5]) (λds r h=>?_) (λds r h=>?_)
 ·unfold F93 at h;split at h
  ·simp
  ·cases h
 ·unfold F93 at h;split at h
  ·rename_i nl t xs s;split at h
   ·rename_i g;obtain⟨l,rfl,hl,e⟩:=D3 g;simp only[Qi]at h;subst h;rw[e];have i:=aLS (nl:=nl) (t:=[]) (s:=s) hl;unfold aX1;simp only[↓GQ,Hb,simprocAttr,Aj,Ql,Ab y,i]
   ·cases h
  ·cases h
open Classical in
def F36:List D->Option D
 |[.agg [.slice _ _ xs],.str s,.str p]=>if Et xs∧∀k∈Cj xs,k.2.2.2.length<=1000000 then some (.int .u8 (if AN (Cj xs) s=true then Cy (AP (Cj xs) (HT (Cj xs) s)).2.2.2 p else 0))else none
 |_=>none
def aZ0:Kq F36 355:=by
 obtain⟨S,v,hl⟩:=A4 (Aa aIP (Aa aQ9 Ae));have w:=hl 57 _ rfl;have x:=hl 294 _ rfl;clear hl;refine AB (S:=S) v (Al func355:Fn Qo 355 25 aYn [.t 6]) (λds r h=>?_) (λds r h=>?_)
 ·unfold F36 at h;split at h
  ·simp
  ·cases h
 ·unfold F36 at h;split at h
  ·rename_i nl t xs s p;split at h
   ·rename_i g;obtain⟨g,u⟩:=g;obtain⟨l,rfl,hl,e⟩:=D3 g;rw[e]at u h;simp only[Qi]at h;subst h;have a:=Tb (nl:=nl) (t:=[]) (s:=s) hl;have hu:=oF l;unfold aYn;cases hf:AN l s with
    |false=>simp only[↓GQ,Hb,simprocAttr,Aj,Ar,As,Ql,Qw,Ab w,a,hf]
    |true=>
     have hi:HT l s<l.length:=by
      grind [AN]
     rw[hf]at a;generalize HT l s=i at a hi;have z:(0:Int)<=(i:Int):=O
     have ia:=Dp (l:=l) (j:=i) hi;have y:AP l i∈l:=by simp[AP,Qj hi]
     have ea:=u _ y;generalize AP l i=k at ia ea;obtain⟨n,q,ka,rs⟩:=k;replace ia:(Au l)[i]?=some (.agg [.str n,.str q,.slice ka [] (Am rs)]):=ia;have b:=nH (nl:=ka) (t:=[]) (s:=p) ea;simp only[↓GQ,Hb,simprocAttr,Aj,Ar,As,Ql,Qw,QR,Zk,Q_,Ab w,a,Ab x,b,z,ia,Qp]
   ·cases h
  ·cases h
def Dc(n p:Bs)(l:List Rl):Int:=if BJ n=false then 2 else if B4 l≠0 then B4 l else if p=[]∧n=[114,111,111,116]then 0 else if BJ p=true∧p≠n then 0 else 2
open Classical in
def NK:List D->Option D
 |[.agg [.str n,.str p,.slice _ _ xs]]=>if(xs=Am (Bc xs)∧xs.length<=1000000∧BR (Bc xs))∧n.length<=1000000∧p.length<=1000000 then some (.int .i64 (Dc n p (Bc xs)))else none
 |_=>none
open Classical in
def HV{n p:Bs}{nl:Bool}{t:Id}{l:List Rl}(hl:l.length<=1000000)(o:BR l)(u:n.length<=1000000)(q:p.length<=1000000):NK [.agg [.str n,.str p,.slice nl t (Am l)]]=some (.int .i64 (Dc n p l)):=by
 have h:(Am l=Am (Bc (Am l))∧(Am l).length<=1000000∧BR (Bc (Am l)))∧n.length<=1000000∧p.length<=1000000:=by rw[AS,Ay];exact⟨⟨rfl,hl,o⟩,u,q⟩
 show(if _ then _ else _)=_;rw[if_pos h,AS]
def aBV:Kq NK 59:=by
 obtain⟨S,x,hl⟩:=A4 (Aa aVN (Aa cF Ae));have b:=hl 120 _ rfl;have da:=hl 121 _ rfl;clear hl;refine AB (S:=S) x (Al func59:Fn Qo 59 34 aPC [.t 2]) (λds r h=>?_) (λds r h=>?_)
 ·unfold NK at h;split at h
  ·simp
  ·cases h
 ·unfold NK at h;split at h
  ·rename_i n p nl t xs;split at h
   ·rename_i g;obtain⟨⟨f,hl,o⟩,v,ia⟩:=g;simp only[Qi]at h;subst h;generalize Bc xs=l at f o;subst f;rw[Ay]at hl;have a:aHq [.str n]=some (.bool (BJ n)):=if_pos v;have c:aHq [.str p]=some (.bool (BJ p)):=if_pos ia;have d:=Ly (nl:=nl) (t:=[]) hl o;have hu:=Fk l;have k:=DA l;unfold aPC Dc;generalize B4 l=e at *;generalize BJ p=q at *;generalize BJ n=y at *;cases y with
    |false=>simp only[↓GQ,Hb,simprocAttr,Aj,Ab b,a]
    |true=>
     simp only[↓GQ,Hb,simprocAttr,Aj,Ql,Ab b,a,Ab da,d]
     repeat' (first|(refine aD (λh=>?_) (λh=>?_)<;>try (exfalso;omega))|(simp only[↓GQ,Hb,simprocAttr,h,Aj,Ql,false_and,Ab b,c]))
     all_goals (try simp_all)
   ·cases h
  ·cases h
def Bi{s:Nat->D}{m:GV}{k:Option Nat}{a b:Nat}:B6 [.cell k a,.t b] s m=(WF m k (s a)).map λd=> .tup [d,s b]:=by
 simp only[B6,Fj,RV.of];cases WF m k (s a)<;>rfl
def GM:(true !=false)=true:=rfl
def aFm:(false !=false)=false:=rfl
def LM(nl:Bool)(xs:List D):Prop:=xs=Am (Bc xs)∧xs.length<=1000000∧(nl=true->xs=[])
def Is{nl:Bool}{l:List Rl}(hl:l.length<=1000000)(c:nl=true->l=[]):LM nl (Am l):=⟨by rw[AS],by rw[Ay];exact hl,λh=>by rw[c h];rfl⟩
def F0{nl:Bool}{xs:List D}(h:LM nl xs):∃l:List Rl,xs=Am l∧l.length<=1000000∧(nl=true->l=[])∧Bc xs=l:=by
 refine⟨Bc xs,h.1,?_,λc=>?_,rfl⟩
 ·have:=h.2.1;rw[h.1,Ay]at this;exact this
 ·rw[h.2.2 c];rfl
open Classical in
def aLR:List D->Option D
 |[.slice nl _ xs]=>if LM nl xs then some (.slice nl [] xs)else none
 |_=>none
open Classical in
def aLQ{nl:Bool}{t:Id}{l:List Rl}(hl:l.length<=1000000)(c:nl=true->l=[]):aLR [.slice nl t (Am l)]=some (.slice nl [] (Am l)):=by
 show(if _ then _ else _)=_;rw[if_pos (Is hl c)]
def aVW:Kq aLR 119:=by
 refine AB (S:=λ_=>none) AO (Al func119:Fn Qo 119 8 aOX [.t 2]) (λds r h=>?_) (λds r h=>?_)
 ·unfold aLR at h;split at h
  ·simp
  ·cases h
 ·unfold aLR at h;split at h
  ·rename_i nl t xs;split at h
   ·rename_i g;obtain⟨l,rfl,hl,c,e⟩:=F0 g;simp only[Qi]at h;subst h;have n1:(Am l).length*25<=140737488355328:=by rw[Ay];omega
    unfold aOX;cases nl with
    |true=>
     have:=c rfl;subst this;simp only[↓GQ,GT,simprocAttr,GM,ID];rfl
    |false=>simp only[↓GQ,Hb,simprocAttr,Aj,false_and,aFm,n1,CY,Cx,N0,false_or,Zx,ne_eq,Zv,List.all_nil,ID]
   ·cases h
  ·cases h
open Classical in
def F94:List D->Option D
 |[.agg [.str n,.str p,.slice nl _ xs]]=>if LM nl xs then some (.agg [.str n,.str p,.slice nl [] xs])else none
 |_=>none
open Classical in
def aHb{n p:Bs}{nl:Bool}{t:Id}{l:List Rl}(hl:l.length<=1000000)(c:nl=true->l=[]):F94 [.agg [.str n,.str p,.slice nl t (Am l)]]=some (.agg [.str n,.str p,.slice nl [] (Am l)]):=by
 show(if _ then _ else _)=_;rw[if_pos (Is hl c)]
def aU7:Kq F94 58:=by
 obtain⟨S,v,hl⟩:=A4 (Aa aVW Ae);have a:=hl 119 _ rfl;clear hl;refine AB (S:=S) v (Al func58:Fn Qo 58 8 aX0 [.cell (some 3) 2]) (λds r h=>?_) (λds r h=>?_)
 ·unfold F94 at h;split at h
  ·simp
  ·cases h
 ·unfold F94 at h;split at h
  ·rename_i n p nl t xs;split at h
   ·rename_i g;obtain⟨l,rfl,hl,c,e⟩:=F0 g;simp only[Qi]at h;subst h;have b:=aLQ (t:=[]) hl c;unfold aX0;simp only[↓GQ,Hb,simprocAttr,Aj,Ar,As,Ql,Qw,QT,Qx,QG,and_false,Q6,Bo,AY,Ab a,b]
   ·cases h
  ·cases h
def aA1(k:Tk):Prop:=k.2.2.2.length<=1000000∧(k.2.2.1=true->k.2.2.2=[])
open Classical in
def F35:List D->Option D
 |[.agg [.slice _ _ xs],.str s]=>if Et xs∧∀k∈Cj xs,aA1 k then some (.tup (if AN (Cj xs) s=true then [HD (AP (Cj xs) (HT (Cj xs) s)),.bool true]else [.agg [.str [],.str [],.slice true [] []],.bool false]))else none
 |_=>none
def aRa:Kq F35 22:=by
 obtain⟨S,v,hl⟩:=A4 (Aa aIP (Aa aU7 Ae));have w:=hl 57 _ rfl;have b:=hl 58 _ rfl;clear hl;refine AB (S:=S) v (Al func22:Fn Qo 22 23 aYo [.cell (some 3) 4,.t 5]) (λds r h=>?_) (λds r h=>?_)
 ·unfold F35 at h;split at h
  ·simp
  ·cases h
 ·unfold F35 at h;split at h
  ·rename_i nl t xs s;split at h
   ·rename_i g;obtain⟨g,u⟩:=g;obtain⟨l,rfl,hl,e⟩:=D3 g;rw[e]at u h;simp only[Qi]at h;subst h;have a:=Tb (nl:=nl) (t:=[]) (s:=s) hl;have hu:=oF l;unfold aYo;cases hf:AN l s with
    |false=>simp only[↓GQ,Hb,simprocAttr,Aj,Ar,As,Ql,Qw,QT,Qx,QG,and_false,Q6,AY,Bi,Bw,Ab w,a,hf]
    |true=>
     have hi:HT l s<l.length:=by
      grind [AN]
     rw[hf]at a;generalize HT l s=i at a hi;have z:(0:Int)<=(i:Int):=O
     have ia:=Dp (l:=l) (j:=i) hi;have y:AP l i∈l:=by simp[AP,Qj hi]
     have ea:=u _ y;generalize AP l i=k at ia ea;obtain⟨n,q,ka,rs⟩:=k;replace ia:(Au l)[i]?=some (.agg [.str n,.str q,.slice ka [] (Am rs)]):=ia;have o:=aHb (n:=n) (p:=q) (t:=[]) ea.1 ea.2;simp only[↓GQ,Hb,simprocAttr,Aj,Ar,As,Ql,Qw,QD,QS,QT,Qx,QG,and_false,Q6,AY,Bi,Ab w,a,Ab b,o,z,ia,Qp,HD]
   ·cases h
  ·cases h
def aJ5:=y1 Tryz.f146 3 [] []
def aJ4:=y1 Tryz.f146 11 [] []
def aYw:=y0 Tryz.f146 [] [(3,aJ5),(11,aJ4)]
end Go.Vd
end
