/- A part of the proof; nothing in it is assumed. -/
import Derived.Test.YtpiplnfjodahpaaGreatDoorMFitsP3
import Derived.Shelf.Strings.Repeat
import Derived.Laws.CopyOwn
import Derived.Shelf.Sort.Plain
import Derived.Shelf.Slices.CompactS
import Derived.Sort.OwnSorted
import Derived.Lib.OwnBridge
import Derived.Shelf.Slices.In.SortNone
import Derived.Laws.EntriesVeiled

set_option linter.unusedSimpArgs false
set_option linter.unusedVariables false
set_option linter.defProp false
set_option maxHeartbeats 4000000
set_option maxRecDepth 100000
open Nat renaming le_of_ble_eq_true→Qa,le_refl→Qe,zero_le→Qf,zero_add→Qj,succ_ne_zero→Ql,reduceEqDiff→Qw,zero_ne_one→QA,reduceAdd→QF,le_trans→QG,sub_zero→QK,lt_trichotomy→ZE,not_lt_zero→ZJ,lt_or_ge→ZR
open List renaming length_cons→Qb,getElem?_eq_getElem→Qd,length_nil→Qg,length_append→Qh,filter_cons→Qi,mem_cons→Qn,mem_cons_self→Qo,mem_map→Qp,length_map→Qr,length_mergeSort→Qs,mem_cons_of_mem→Qu,getElem?_eq_some_iff→Qy,getD→Qz,nil_append→QC,pairwise_iff_getElem→QD,mem_append→QH,getElem_of_mem→QI,take_of_length_le→QJ,getElem_mem→QL,pairwise_cons→QM,nodup_iff_pairwise_ne→QN,getD_eq_getElem?_getD→QO,getElem?_append_left→QP,mem_filter→QQ,take_succ_eq_append_getElem→QR,mem_of_getElem?→QS,forall_mem_cons→QT,map_cons→QV,filter_sublist→QX,filter_append→QY,take_append_drop→Q_,append_assoc→Q0,drop_zero→Q2,mem_of_mem_take→Q3,length_filterMap_le→Q5,map_nil→Q6,getElem?_map→Q7,drop_eq_nil_of_le→Q8,all_eq_true→Q9,length_take→Za,eq_nil_of_length_eq_zero→Zc,countP_eq_length_filter→Zd,take_succ_cons→Ze,take_zero→Zf,mem_singleton→Zg,getElem?_append_right→Zh,find?_eq_none→Zi,any_eq_false→Zj,find?_append→Zk,not_mem_nil→Zl,take_length→Zn,length_eq_zero_iff→Zo,mem_flatMap→Zp,filter_eq_nil_iff→Zs,append_nil→Zu,map_append→Zv,length_filter_le→Zw,replicate→Zy,mem_of_mem_drop→Zz,take→ZA,mergeSort_perm→ZB,flatMap_cons→ZF,suffix_cons→ZG,isEmpty_iff→ZH,cons_append→ZI,nodup_cons→ZK,find?_cons→ZL,map_take→ZO,getLast?→ZP,sum_cons→ZQ,length→ZT
open Go.Proofs.Tryz renaming prog→Qc
open List.cons renaming injEq→Qk,inj→ZW
open Int renaming toNat_natCast→Qm,toNat_of_nonneg→QW,toNat_zero→Q1,lt_irrefl→Zb,toNat_one→ZC,le_refl→ZS
open And renaming intro→Qq
open Option.some renaming injEq→Qt,inj→ZM
open Array renaming getElem?_eq_some_iff→Qv,size_push→QZ
open Option renaming map_eq_some_iff→Qx,isSome_some→QE,getD_some→Q4,bind_some→Zm
open Bool renaming and_eq_true→QB,true_or→Zq,or_true→Zr,or_eq_true→Zt,false_and→Zx,false_or→ZD,and_false→ZN
open Prod.mk renaming injEq→QU
open Iff renaming intro→ZU
open Prod renaming fst→ZV
open Go.Proofs.Tryz
noncomputable section
namespace Go.Vd
open Go.Proofs Go.RowKit
def R4:=Ar [(218,wQ C9),(221,wQ VV),(223,rdQ xZ),(222,Ac aI9),(224,wQ VT),(144,wQ ON),(145,wQ fT),(225,wQ aIc),(226,Ac aI7),(227,Ac aI5),(228,Ac aI3)]
def Ua:Wb->Oc->List D->Option WY:=RW R4 SD [] 172
def aWT:(wQ Ua).ok Qc 154:=Dn (Aj func154) (Aa aKD (Aa aKB (Aa aRY (Aa aUl (Aa aUj (Aa Sx (Aa kB (Aa aUi (Aa aUh (Aa aUg (Aa aUf Ad)))))))))))
def aD5(w:Wb)(o:Oc)(s:Sc)(k:Bool)(b:Oc)(g:o.nl=true->o.ops=[])(z:C9 w o [.str w.a.pa]=some (.tup [.agg (Hg s),.bool k,.bool false],b,none)):Ua w o []=some (.tup [],b,none):=by
 refine Ba g ⟨Qa rfl,λh=>((E4 z).2.1 rfl),λl h=>Xc,λi m fr t x j p n0=>?_⟩;have q:=Wt.start x j;unfold SD;have c:=AM x.1;unfold Hg at *;simp only[↓C2,Hc,Hl,G7,simprocAttr,c,AD R4 218];refine Aq q z (λM c1 n=>?_);simp only[Hb,↓C2,G7,simprocAttr];exact c1.put.put.end0 x.2.2
def xS(w:Wb)(o:Oc)(s:Sc)(is:Bool)(v:Oc)(ol:Option (List Nat))(g:o.nl=true->o.ops=[])(z:C9 w o [.str w.a.pa]=some (.tup [.agg (Hg s),.bool is,.bool true],o,none))(r:w.a.op=10)(q:VV w o [.str w.a.pa,.agg (Hg s),.int .i64 w.a.cas,.str w.a.da]=some (.tup [],v,ol)):Ua w o []=some (.tup [],v,ol.map (·++[41])):=by
 refine Ba g ⟨Qa rfl,λh=>CA q h,λl h=>Cz q h,λi m fr t x j f n0=>?_⟩;have e:=Wt.start x j;unfold SD;have k:=AM x.1;unfold Hg at *;simp only[↓C2,Hc,Hl,G7,simprocAttr,k,AD R4 218];refine Aq e z (λM c1 n=>?_);have k:=AM c1.at_.1;simp only[Hb,↓C2,G7,simprocAttr,k,n0,AD R4 221,r];refine Cv c1.put.put q (λM2 u hu b y=>?_);simp only[↓C2,H_,simprocAttr];refine Au.intro (λp c=>Xq) ?_;simp only[↓C2,Hc,simprocAttr];exact b.endc x.2.2
def aD4(w:Wb)(o:Oc)(s:Sc)(b:Oc)(ol:Option (List Nat))(g:o.nl=true->o.ops=[])(z:C9 w o [.str w.a.pa]=some (.tup [.agg (Hg s),.bool false,.bool true],o,none))(k:w.a.op≠10)(e:w.a.op≠15)(v:ON w o [.int .i64 6]=some (.tup [],b,ol)):Ua w o []=some (.tup [],b,ol.map (·++[35])):=by
 refine Ba g ⟨Qa rfl,λh=>CA v h,λl h=>Cz v h,λi m fr t x j p n0=>?_⟩;have q:=Wt.start x j;unfold SD;have c:=AM x.1;unfold Hg at *;simp only[↓C2,Hc,Hl,G7,simprocAttr,c,AD R4 218];refine Aq q z (λM c1 n=>?_);have c:=AM c1.at_.1;simp only[Hb,↓C2,G7,simprocAttr,c,n0,eq_false k,eq_false e,AD R4 144];refine Aq c1.put.put v (λf u y=>?_);simp only[↓C2,Hc,simprocAttr];exact u.endc x.2.2
def xU(w:Wb)(o:Oc)(s:Sc)(b:Oc)(ol:Option (List Nat))(g:o.nl=true->o.ops=[])(z:C9 w o [.str w.a.pa]=some (.tup [.agg (Hg s),.bool true,.bool true],o,none))(r:w.a.op=14)(y:fT w o [.agg (HQ (.about s))]=some (.tup [],b,ol)):Ua w o []=some (.tup [],b,ol.map (·++[44])):=by
 refine Ba g ⟨Qa rfl,λh=>CA y h,λl h=>Cz y h,λi m fr t x j p n0=>?_⟩;have q:=Wt.start x j;unfold SD;have c:=AM x.1;unfold Hg at *;simp only[↓C2,Hc,Hl,G7,simprocAttr,c,AD R4 218];refine Aq q z (λM c1 n=>?_);have c:=AM c1.at_.1;simp only[Hb,↓C2,G7,simprocAttr,c,n0,AD R4 145,r];refine Aq c1.put.put y (λf u e=>?_);simp only[↓C2,Hc,simprocAttr];exact u.endc x.2.2
def xT(w:Wb)(o:Oc)(s:Sc)(v:Oc)(ol:Option (List Nat))(g:o.nl=true->o.ops=[])(z:C9 w o [.str w.a.pa]=some (.tup [.agg (Hg s),.bool true,.bool true],o,none))(r:w.a.op=16)(b:aIc w o [.agg (Hg s)]=some (.tup [],v,ol)):Ua w o []=some (.tup [],v,ol.map (·++[50])):=by
 refine Ba g ⟨Qa rfl,λh=>CA b h,λl h=>Cz b h,λi m fr t x j p n0=>?_⟩;have q:=Wt.start x j;unfold SD;have c:=AM x.1;unfold Hg at *;simp only[↓C2,Hc,Hl,G7,simprocAttr,c,AD R4 218];refine Aq q z (λM c1 n=>?_);have c:=AM c1.at_.1;simp only[Hb,↓C2,G7,simprocAttr,c,n0,AD R4 225,r];refine Aq c1.put.put b (λf u y=>?_);simp only[↓C2,Hc,simprocAttr];exact u.endc x.2.2
def mM(w:Wb)(o:Oc)(s:Sc)(is:Bool)(o2:Oc)(ol:Option (List Nat))(g:o.nl=true->o.ops=[])(z:C9 w o [.str w.a.pa]=some (.tup [.agg (Hg s),.bool is,.bool true],o,none))(r:w.a.op=15)(q:Int)(b:Bool)(s2:Sc)(gnl:Bool)(gone:List Int)(e:Int)(v:VT w o [.agg (Hg s2),.slice gnl [] (AI gone),.int .i64 e]=some (.tup [],o2,ol))(c:xZ w o [.str w.a.pa]=some (.agg [.int .i64 q,.bool b],o,none))(d:aI9 [.agg (Hg s),.agg [.int .i64 q,.bool b],.int .i64 w.a.n,.bool w.a.fl]=some (.tup [.agg (Hg s2),.slice gnl [] (AI gone),.int .i64 e])):Ua w o []=some (.tup [],o2,ol.map (·++[62])):=by
 refine Ba g ⟨Qa rfl,λh=>CA v h,λl h=>Cz v h,λi m fr t x j f n0=>?_⟩;have hW:=Wt.start x j;unfold SD;have k:=AM x.1;unfold Hg at *;simp only[↓C2,Hc,Hl,G7,simprocAttr,k,AD R4 218];refine Aq hW z (λM c1 c2=>?_);have k:=AM c1.at_.1;simp only[Hb,↓C2,G7,simprocAttr,k,n0,AD R4 223,r];have a1:=aDR (((c1.put (q:=11) (p:=0) (ys:=[.int .i64 0,.bool false,.int .i64 0,.slice true [] []])).put (q:=11) (p:=0) (ys:=[.int .i64 s.mx,.bool s.cas,.int .i64 s.la,.slice s.nl [] (A9 s.rs)])).at_.1);refine aPF c1.put.put.at_ c ?_;simp only[Hb,↓C2,G7,simprocAttr,k,n0,Ae R4 222,d];refine Wh ?_;simp only[Hb,↓C2,G7,simprocAttr,AD R4 224];refine Aq c1.put.put.put.put v (λM2 u y=>?_);simp only[↓C2,Hc,simprocAttr];exact u.endc x.2.2
def mL(w:Wb)(o:Oc)(s:Sc)(b:Oc)(ol:Option (List Nat))(g:o.nl=true->o.ops=[])(z:C9 w o [.str w.a.pa]=some (.tup [.agg (Hg s),.bool true,.bool true],o,none))(r:w.a.op=11)(f:Sc)(e:Int)(v:VT w o [.agg (Hg f),.slice true [] [],.int .i64 e]=some (.tup [],b,ol))(k:aI7 [.agg (Hg s),.slice w.a.nln [] (AI w.a.ns)]=some (.tup [.agg (Hg f),.int .i64 e])):Ua w o []=some (.tup [],b,ol.map (·++[71])):=by
 refine Ba g ⟨Qa rfl,λh=>CA v h,λl h=>Cz v h,λi m fr t x j p n0=>?_⟩;have q:=Wt.start x j;unfold SD;have c:=AM x.1;unfold Hg at *;simp only[↓C2,Hc,Hl,G7,simprocAttr,c,AD R4 218];refine Aq q z (λM c1 n=>?_);have c:=AM c1.at_.1;simp only[Hb,↓C2,G7,simprocAttr,c,n0,Ae R4 226,k,r];refine Wh ?_;simp only[Hb,↓C2,G7,simprocAttr,AD R4 224];refine Aq c1.put.put.put.put v (λM2 u y=>?_);simp only[↓C2,Hc,simprocAttr];exact u.endc x.2.2
def VP(w:Wb)(o:Oc)(s:Sc)(b:Oc)(ol:Option (List Nat))(g:o.nl=true->o.ops=[])(z:C9 w o [.str w.a.pa]=some (.tup [.agg (Hg s),.bool true,.bool true],o,none))(r:w.a.op=12)(f:Sc)(e:Int)(v:VT w o [.agg (Hg f),.slice true [] [],.int .i64 e]=some (.tup [],b,ol))(k:aI5 [.agg (Hg s),.slice w.a.nln [] (AI w.a.ns)]=some (.tup [.agg (Hg f),.int .i64 e])):Ua w o []=some (.tup [],b,ol.map (·++[78])):=by
 refine Ba g ⟨Qa rfl,λh=>CA v h,λl h=>Cz v h,λi m fr t x j p n0=>?_⟩;have q:=Wt.start x j;unfold SD;have c:=AM x.1;unfold Hg at *;simp only[↓C2,Hc,Hl,G7,simprocAttr,c,AD R4 218];refine Aq q z (λM c1 n=>?_);have c:=AM c1.at_.1;simp only[Hb,↓C2,G7,simprocAttr,c,n0,Ae R4 227,k,r];refine Wh ?_;simp only[Hb,↓C2,G7,simprocAttr,AD R4 224];refine Aq c1.put.put.put.put v (λM2 u y=>?_);simp only[↓C2,Hc,simprocAttr];exact u.endc x.2.2
def fQ(w:Wb)(o:Oc)(s:Sc)(b:Oc)(ol:Option (List Nat))(g:o.nl=true->o.ops=[])(z:C9 w o [.str w.a.pa]=some (.tup [.agg (Hg s),.bool true,.bool true],o,none))(r:w.a.op=13)(f:Sc)(gnl:Bool)(gone:List Int)(e:Int)(v:VT w o [.agg (Hg f),.slice gnl [] (AI gone),.int .i64 e]=some (.tup [],b,ol))(k:aI3 [.agg (Hg s),.slice w.a.nln [] (AI w.a.ns)]=some (.tup [.agg (Hg f),.slice gnl [] (AI gone),.int .i64 e])):Ua w o []=some (.tup [],b,ol.map (·++[81])):=by
 refine Ba g ⟨Qa rfl,λh=>CA v h,λl h=>Cz v h,λi m fr t x j p n0=>?_⟩;have q:=Wt.start x j;unfold SD;have c:=AM x.1;unfold Hg at *;simp only[↓C2,Hc,Hl,G7,simprocAttr,c,AD R4 218];refine Aq q z (λM c1 n=>?_);have c:=AM c1.at_.1;simp only[Hb,↓C2,G7,simprocAttr,c,n0,Ae R4 228,k,r];refine Wh ?_;simp only[Hb,↓C2,G7,simprocAttr,AD R4 224];refine Aq c1.put.put.put.put v (λM2 u y=>?_);simp only[↓C2,Hc,simprocAttr];exact u.endc x.2.2
def HO:=Ar [(218,wQ C9),(144,wQ ON),(219,Ac Of),(211,Ac Fs),(220,Ac OZ),(216,wQ VW),(145,wQ fT),(221,wQ VV)]
def Wi:Wb->Oc->List D->Option WY:=RW HO N_ [] 113
def aWU:(wQ Wi).ok Qc 153:=Dn (Aj func153) (Aa aKD (Aa Sx (Aa aUm (Aa IP (Aa aKC (Aa aBz (Aa kB (Aa aKB Ad))))))))
def aD7(w:Wb)(o:Oc)(s:Sc)(k:Bool)(b:Oc)(g:o.nl=true->o.ops=[])(z:C9 w o [.str w.a.pa]=some (.tup [.agg (Hg s),.bool k,.bool false],b,none)):Wi w o []=some (.tup [],b,none):=by
 refine Ba g ⟨Qa rfl,λh=>((E4 z).2.1 rfl),λl h=>Xc,λi m fr t x j p n0=>?_⟩;have q:=Wt.start x j;unfold N_;have c:=AM x.1;unfold Hg at *;simp only[↓C2,Hc,Hl,G7,simprocAttr,c,AD HO 218];refine Aq q z (λM c1 n=>?_);simp only[Hb,↓C2,G7,simprocAttr];exact c1.put.put.end0 x.2.2
def aD6(w:Wb)(o:Oc)(s:Sc)(b:Oc)(ol:Option (List Nat))(g:o.nl=true->o.ops=[])(z:C9 w o [.str w.a.pa]=some (.tup [.agg (Hg s),.bool false,.bool true],o,none))(v:ON w o [.int .i64 6]=some (.tup [],b,ol)):Wi w o []=some (.tup [],b,ol.map (·++[20])):=by
 refine Ba g ⟨Qa rfl,λh=>CA v h,λl h=>Cz v h,λi m fr t x j p n0=>?_⟩;have q:=Wt.start x j;unfold N_;have c:=AM x.1;unfold Hg at *;simp only[↓C2,Hc,Hl,G7,simprocAttr,c,AD HO 218];refine Aq q z (λM c1 n=>?_);have c:=AM c1.at_.1;simp only[Hb,↓C2,G7,simprocAttr,AD HO 144];refine Aq c1.put.put v (λf u y=>?_);simp only[↓C2,Hc,simprocAttr];exact u.endc x.2.2
def xW(w:Wb)(o:Oc)(s:Sc)(b:Oc)(ol:Option (List Nat))(g:o.nl=true->o.ops=[])(z:C9 w o [.str w.a.pa]=some (.tup [.agg (Hg s),.bool true,.bool true],o,none))(r:w.a.op=9)(nn e:Int)(y rb:Bool)(ga:Of [.agg (Hg s),.int .i64 (w.a.n)]=some (.tup [.agg [.int .i64 nn,.bool y,.bool rb],.int .i64 e]))(p:e≠0)(v:ON w o [.int .i64 e]=some (.tup [],b,ol)):Wi w o []=some (.tup [],b,ol.map (·++[44])):=by
 refine Ba g ⟨Qa rfl,λh=>CA v h,λl h=>Cz v h,λi m fr t x j f n0=>?_⟩;have k:=Wt.start x j;unfold N_;have c:=AM x.1;unfold Hg at *;simp only[↓C2,Hc,Hl,G7,simprocAttr,c,AD HO 218];refine Aq k z (λM c1 q=>?_);have c:=AM c1.at_.1;simp only[Hb,↓C2,G7,simprocAttr,c,n0,Ae HO 219,ga,eq_false p,AD HO 144,r];refine Aq c1.put.put.put.put v (λM2 u d2=>?_);simp only[↓C2,Hc,simprocAttr];exact u.endc x.2.2
def xV(w:Wb)(o:Oc)(s:Sc)(o2:Oc)(ol:Option (List Nat))(g:o.nl=true->o.ops=[])(z:C9 w o [.str w.a.pa]=some (.tup [.agg (Hg s),.bool true,.bool true],o,none))(r:w.a.op=9)(nn:Int)(y rb:Bool)(e:Of [.agg (Hg s),.int .i64 (w.a.n)]=some (.tup [.agg [.int .i64 nn,.bool y,.bool rb],.int .i64 0]))(at_ b:Bs)(ia:Bool)(v:Fs [.int .u8 2,.str w.a.pa,.int .i64 nn]=some (.str at_))(u:OZ [.agg (HG w.k),.str at_]=some (.tup [.str b,.bool ia,.bool false]))(q:VW w o [.str at_,.bool false]=some (.tup [],o2,ol)):Wi w o []=some (.tup [],o2,ol.map (·++[69])):=by
 refine Ba g ⟨Qa rfl,λh=>CA q h,λl h=>Cz q h,λi m fr t x j f n0=>?_⟩;have hW:=Wt.start x j;unfold N_;have xx:=AM x.1;unfold Hg at *;unfold HG at u;simp only[↓C2,Hc,Hl,G7,simprocAttr,xx,AD HO 218];refine Aq hW z (λM c1 c2=>?_);have xx:=AM c1.at_.1;simp only[Hb,↓C2,G7,simprocAttr,xx,n0,Ae HO 219,e,Ae HO 211,v,r];refine Au.intro (λp c=>Xq) ?_;simp only[Hb,↓C2,G7,simprocAttr,xx,n0,Ae HO 220,u,AD HO 216];refine Aq c1.put.put.put.put q (λM2 d1 d2=>?_);simp only[↓C2,Hc,simprocAttr];exact d1.endc x.2.2
def fR(w:Wb)(o:Oc)(s:Sc)(o2:Oc)(ol:Option (List Nat))(g:o.nl=true->o.ops=[])(z:C9 w o [.str w.a.pa]=some (.tup [.agg (Hg s),.bool true,.bool true],o,none))(r:w.a.op=9)(nn:Int)(ra rb:Bool)(e:Of [.agg (Hg s),.int .i64 (w.a.n)]=some (.tup [.agg [.int .i64 nn,.bool ra,.bool rb],.int .i64 0]))(at_ b:Bs)(v:Fs [.int .u8 2,.str w.a.pa,.int .i64 nn]=some (.str at_))(u:OZ [.agg (HG w.k),.str at_]=some (.tup [.str b,.bool true,.bool true]))(y:fT w o [.agg (HQ (.found nn b))]=some (.tup [],o2,ol)):Wi w o []=some (.tup [],o2,ol.map (·++[81])):=by
 refine Ba g ⟨Qa rfl,λh=>CA y h,λl h=>Cz y h,λi m fr t x j f n0=>?_⟩;have hW:=Wt.start x j;unfold N_;have xx:=AM x.1;unfold Hg at *;unfold HG at u;simp only[↓C2,Hc,Hl,G7,simprocAttr,xx,AD HO 218];refine Aq hW z (λM c1 q=>?_);have xx:=AM c1.at_.1;simp only[Hb,↓C2,G7,simprocAttr,xx,n0,Ae HO 219,e,Ae HO 211,v,r];refine Au.intro (λp c=>Xq) ?_;simp only[Hb,↓C2,G7,simprocAttr,xx,n0,Ae HO 220,u,AD HO 145,r];refine Aq c1.put.put.put.put y (λM2 d1 d2=>?_);simp only[↓C2,Hc,simprocAttr];exact d1.endc x.2.2
def VQ(w:Wb)(o:Oc)(s:Sc)(o2:Oc)(ol:Option (List Nat))(g:o.nl=true->o.ops=[])(z:C9 w o [.str w.a.pa]=some (.tup [.agg (Hg s),.bool true,.bool true],o,none))(r:w.a.op=9)(nn:Int)(ra rb:Bool)(e:Of [.agg (Hg s),.int .i64 (w.a.n)]=some (.tup [.agg [.int .i64 nn,.bool ra,.bool rb],.int .i64 0]))(at_ b:Bs)(v:Fs [.int .u8 2,.str w.a.pa,.int .i64 nn]=some (.str at_))(u:OZ [.agg (HG w.k),.str at_]=some (.tup [.str b,.bool false,.bool true]))(y:fT w o [.agg (HQ (.found nn []))]=some (.tup [],o2,ol)):Wi w o []=some (.tup [],o2,ol.map (·++[82])):=by
 refine Ba g ⟨Qa rfl,λh=>CA y h,λl h=>Cz y h,λi m fr t x j f n0=>?_⟩;have hW:=Wt.start x j;unfold N_;have xx:=AM x.1;unfold Hg at *;unfold HG at u;simp only[↓C2,Hc,Hl,G7,simprocAttr,xx,AD HO 218];refine Aq hW z (λM c1 q=>?_);have xx:=AM c1.at_.1;simp only[Hb,↓C2,G7,simprocAttr,xx,n0,Ae HO 219,e,Ae HO 211,v,r];refine Au.intro (λp c=>Xq) ?_;simp only[Hb,↓C2,G7,simprocAttr,xx,n0,Ae HO 220,u,AD HO 145,r];refine Aq c1.put.put.put.put y (λM2 d1 d2=>?_);simp only[↓C2,Hc,simprocAttr];exact d1.endc x.2.2
def mO(w:Wb)(o:Oc)(s:Sc)(b:Oc)(ol:Option (List Nat))(g:o.nl=true->o.ops=[])(z:C9 w o [.str w.a.pa]=some (.tup [.agg (Hg s),.bool true,.bool true],o,none))(r:w.a.op=18)(nn e:Int)(y k:Bool)(ga:Of [.agg (Hg s),.int .i64 (0)]=some (.tup [.agg [.int .i64 nn,.bool y,.bool k],.int .i64 e]))(p:e≠0)(v:ON w o [.int .i64 e]=some (.tup [],b,ol)):Wi w o []=some (.tup [],b,ol.map (·++[45])):=by
 refine Ba g ⟨Qa rfl,λh=>CA v h,λl h=>Cz v h,λi m fr t x j f n0=>?_⟩;have q:=Wt.start x j;unfold N_;have c:=AM x.1;unfold Hg at *;simp only[↓C2,Hc,Hl,G7,simprocAttr,c,AD HO 218];refine Aq q z (λM c1 n=>?_);have c:=AM c1.at_.1;simp only[Hb,↓C2,G7,simprocAttr,c,n0,Ae HO 219,ga,eq_false p,AD HO 144,r];refine Aq c1.put.put.put.put v (λM2 u d2=>?_);simp only[↓C2,Hc,simprocAttr];exact u.endc x.2.2
def mN(w:Wb)(o:Oc)(s:Sc)(o2:Oc)(ol:Option (List Nat))(g:o.nl=true->o.ops=[])(z:C9 w o [.str w.a.pa]=some (.tup [.agg (Hg s),.bool true,.bool true],o,none))(r:w.a.op=18)(nn:Int)(y rb:Bool)(e:Of [.agg (Hg s),.int .i64 (0)]=some (.tup [.agg [.int .i64 nn,.bool y,.bool rb],.int .i64 0]))(at_ b:Bs)(ia:Bool)(v:Fs [.int .u8 2,.str w.a.pa,.int .i64 nn]=some (.str at_))(u:OZ [.agg (HG w.k),.str at_]=some (.tup [.str b,.bool ia,.bool false]))(q:VW w o [.str at_,.bool false]=some (.tup [],o2,ol)):Wi w o []=some (.tup [],o2,ol.map (·++[70])):=by
 refine Ba g ⟨Qa rfl,λh=>CA q h,λl h=>Cz q h,λi m fr t x j f n0=>?_⟩;have hW:=Wt.start x j;unfold N_;have xx:=AM x.1;unfold Hg at *;unfold HG at u;simp only[↓C2,Hc,Hl,G7,simprocAttr,xx,AD HO 218];refine Aq hW z (λM c1 n=>?_);have xx:=AM c1.at_.1;simp only[Hb,↓C2,G7,simprocAttr,xx,n0,Ae HO 219,e,Ae HO 211,v,r];refine Au.intro (λp c=>Xq) ?_;simp only[Hb,↓C2,G7,simprocAttr,xx,n0,Ae HO 220,u,AD HO 216];refine Aq c1.put.put.put.put q (λM2 d1 d2=>?_);simp only[↓C2,Hc,simprocAttr];exact d1.endc x.2.2
def N9(w:Wb)(o:Oc)(s:Sc)(o2:Oc)(g:o.nl=true->o.ops=[])(z:C9 w o [.str w.a.pa]=some (.tup [.agg (Hg s),.bool true,.bool true],o,none))(r:w.a.op=18)(nn:Int)(y rb:Bool)(e:Of [.agg (Hg s),.int .i64 (0)]=some (.tup [.agg [.int .i64 nn,.bool y,.bool rb],.int .i64 0]))(at_ b:Bs)(v:Fs [.int .u8 2,.str w.a.pa,.int .i64 nn]=some (.str at_))(u:OZ [.agg (HG w.k),.str at_]=some (.tup [.str b,.bool true,.bool true]))(s2:Sc)(la:Bool)(q:C9 w o [.str w.a.ot]=some (.tup [.agg (Hg s2),.bool la,.bool false],o2,none)):Wi w o []=some (.tup [],o2,none):=by
 refine Ba g ⟨Qa rfl,λh=>((E4 q).2.1 rfl),λl h=>Xc,λi m fr t x j f n0=>?_⟩;have hW:=Wt.start x j;unfold N_;have xx:=AM x.1;unfold Hg at *;unfold HG at u;simp only[↓C2,Hc,Hl,G7,simprocAttr,xx,AD HO 218];refine Aq hW z (λM c1 n=>?_);have xx:=AM c1.at_.1;simp only[Hb,↓C2,G7,simprocAttr,xx,n0,Ae HO 219,e,Ae HO 211,v,r];refine Au.intro (λp c=>Xq) ?_;simp only[Hb,↓C2,G7,simprocAttr,xx,n0,Ae HO 220,u,AD HO 218,r];refine Aq c1.put.put.put.put q (λM2 d1 d2=>?_);have xx:=AM d1.at_.1;simp only[Hb,↓C2,G7,simprocAttr];exact d1.put.put.end0 x.2.2
def fS(w:Wb)(o:Oc)(s:Sc)(o2:Oc)(ol:Option (List Nat))(g:o.nl=true->o.ops=[])(z:C9 w o [.str w.a.pa]=some (.tup [.agg (Hg s),.bool true,.bool true],o,none))(r:w.a.op=18)(nn:Int)(ra rb:Bool)(e:Of [.agg (Hg s),.int .i64 (0)]=some (.tup [.agg [.int .i64 nn,.bool ra,.bool rb],.int .i64 0]))(at_ b:Bs)(v:Fs [.int .u8 2,.str w.a.pa,.int .i64 nn]=some (.str at_))(n:OZ [.agg (HG w.k),.str at_]=some (.tup [.str b,.bool true,.bool true]))(s2:Sc)(la:Bool)(ia:C9 w o [.str w.a.ot]=some (.tup [.agg (Hg s2),.bool la,.bool true],o,none))(q:VV w o [.str w.a.ot,.agg (Hg s2),.int .i64 (-1),.str b]=some (.tup [],o2,ol)):Wi w o []=some (.tup [],o2,ol.map (·++[101])):=by
 refine Ba g ⟨Qa rfl,λh=>CA q h,λl h=>Cz q h,λi m fr t x j f n0=>?_⟩;have hW:=Wt.start x j;unfold N_;have xx:=AM x.1;unfold Hg at *;unfold HG at n;simp only[↓C2,Hc,Hl,G7,simprocAttr,xx,AD HO 218];refine Aq hW z (λM c1 c2=>?_);have xx:=AM c1.at_.1;simp only[Hb,↓C2,G7,simprocAttr,xx,n0,Ae HO 219,e,Ae HO 211,v,r];refine Au.intro (λp c=>Xq) ?_;simp only[Hb,↓C2,G7,simprocAttr,xx,n0,Ae HO 220,n,AD HO 218,r];refine Aq c1.put.put.put.put ia (λM2 d1 d2=>?_);have xx:=AM d1.at_.1;simp only[Hb,↓C2,G7,simprocAttr,xx,n0,AD HO 221];refine Cv d1.put.put q (λM3 u hu e1 y=>?_);simp only[↓C2,H_,simprocAttr];refine Au.intro (λp c=>Xq) ?_;simp only[↓C2,Hc,simprocAttr];exact e1.endc x.2.2
def Nm(w:Wb)(o:Oc)(s:Sc)(o2:Oc)(g:o.nl=true->o.ops=[])(z:C9 w o [.str w.a.pa]=some (.tup [.agg (Hg s),.bool true,.bool true],o,none))(r:w.a.op=18)(nn:Int)(y rb:Bool)(e:Of [.agg (Hg s),.int .i64 (0)]=some (.tup [.agg [.int .i64 nn,.bool y,.bool rb],.int .i64 0]))(at_ b:Bs)(v:Fs [.int .u8 2,.str w.a.pa,.int .i64 nn]=some (.str at_))(u:OZ [.agg (HG w.k),.str at_]=some (.tup [.str b,.bool false,.bool true]))(s2:Sc)(la:Bool)(q:C9 w o [.str w.a.ot]=some (.tup [.agg (Hg s2),.bool la,.bool false],o2,none)):Wi w o []=some (.tup [],o2,none):=by
 refine Ba g ⟨Qa rfl,λh=>((E4 q).2.1 rfl),λl h=>Xc,λi m fr t x j f n0=>?_⟩;have hW:=Wt.start x j;unfold N_;have xx:=AM x.1;unfold Hg at *;unfold HG at u;simp only[↓C2,Hc,Hl,G7,simprocAttr,xx,AD HO 218];refine Aq hW z (λM c1 n=>?_);have xx:=AM c1.at_.1;simp only[Hb,↓C2,G7,simprocAttr,xx,n0,Ae HO 219,e,Ae HO 211,v,r];refine Au.intro (λp c=>Xq) ?_;simp only[Hb,↓C2,G7,simprocAttr,xx,n0,Ae HO 220,u,AD HO 218,r];refine Aq c1.put.put.put.put q (λM2 d1 d2=>?_);have xx:=AM d1.at_.1;simp only[Hb,↓C2,G7,simprocAttr];exact d1.put.put.end0 x.2.2
def VR(w:Wb)(o:Oc)(s:Sc)(o2:Oc)(ol:Option (List Nat))(g:o.nl=true->o.ops=[])(z:C9 w o [.str w.a.pa]=some (.tup [.agg (Hg s),.bool true,.bool true],o,none))(r:w.a.op=18)(nn:Int)(ra rb:Bool)(e:Of [.agg (Hg s),.int .i64 (0)]=some (.tup [.agg [.int .i64 nn,.bool ra,.bool rb],.int .i64 0]))(at_ b:Bs)(v:Fs [.int .u8 2,.str w.a.pa,.int .i64 nn]=some (.str at_))(n:OZ [.agg (HG w.k),.str at_]=some (.tup [.str b,.bool false,.bool true]))(s2:Sc)(la:Bool)(ia:C9 w o [.str w.a.ot]=some (.tup [.agg (Hg s2),.bool la,.bool true],o,none))(q:VV w o [.str w.a.ot,.agg (Hg s2),.int .i64 (-1),.str []]=some (.tup [],o2,ol)):Wi w o []=some (.tup [],o2,ol.map (·++[102])):=by
 refine Ba g ⟨Qa rfl,λh=>CA q h,λl h=>Cz q h,λi m fr t x j f n0=>?_⟩;have hW:=Wt.start x j;unfold N_;have xx:=AM x.1;unfold Hg at *;unfold HG at n;simp only[↓C2,Hc,Hl,G7,simprocAttr,xx,AD HO 218];refine Aq hW z (λM c1 c2=>?_);have xx:=AM c1.at_.1;simp only[Hb,↓C2,G7,simprocAttr,xx,n0,Ae HO 219,e,Ae HO 211,v,r];refine Au.intro (λp c=>Xq) ?_;simp only[Hb,↓C2,G7,simprocAttr,xx,n0,Ae HO 220,n,AD HO 218,r];refine Aq c1.put.put.put.put ia (λM2 d1 d2=>?_);have xx:=AM d1.at_.1;simp only[Hb,↓C2,G7,simprocAttr,xx,n0,AD HO 221];refine Cv d1.put.put q (λM3 u hu e1 y=>?_);simp only[↓C2,H_,simprocAttr];refine Au.intro (λp c=>Xq) ?_;simp only[↓C2,Hc,simprocAttr];exact e1.endc x.2.2
def aMd:=y0 f141 [] []
def aMW:=y0 f85 [] []
end Go.Vd
namespace Go.Proofs
open Go.Shelf
def aP:Go.Shelf.Ren:=⟨λ|105=>84|212=>139|99=>51|165=>121|166=>122|170=>140|169=>123|263=>204|264=>205|206=>105|240=>183|241=>184|276=>245|277=>246|n=>n,λ|9=>9|3=>3|4=>4|20=>20|0=>0|46=>109|109=>221|5=>5|72=>196|76=>200|51=>268|146=>269|53=>185|148=>271|70=>194|37=>108|75=>199|127=>252|164=>309|80=>159|n=>n,λ|n=>n⟩
def bH:Go.Proofs.Lays.n105 Qc aP:={
 mixed:=Z
 f99:=func51.trans (congrArg some Z)
 f105:=func84.trans (congrArg some Z)
 f165:=func121.trans (congrArg some Z)
 f166:=func122.trans (congrArg some Z)
 f169:=func123.trans (congrArg some Z)
 f170:=func140.trans (congrArg some Z)
 f206:=func105.trans (congrArg some Z)
 f212:=func139.trans (congrArg some Z)
 f240:=func183.trans (congrArg some Z)
 f241:=func184.trans (congrArg some Z)
 f263:=func204.trans (congrArg some Z)
 f264:=func205.trans (congrArg some Z)
 f276:=func245.trans (congrArg some Z)
 f277:=func246.trans (congrArg some Z)
 t0:=underlying0
 a0:=isAgg0
 z0:=sizeOf0
 v0:=zeroValue0
 t3:=underlying3
 a3:=isAgg3
 z3:=sizeOf3
 v3:=zeroValue3
 t4:=underlying4
 a4:=isAgg4
 z4:=sizeOf4
 v4:=zeroValue4
 t5:=underlying5
 a5:=isAgg5
 z5:=sizeOf5
 v5:=zeroValue5
 t9:=underlying9
 a9:=isAgg9
 z9:=sizeOf9
 v9:=zeroValue9
 t20:=underlying20
 a20:=isAgg20
 z20:=sizeOf20
 v20:=zeroValue20
 t37:=underlying108
 a37:=isAgg108
 z37:=sizeOf108
 v37:=zeroValue108
 t46:=underlying109
 a46:=isAgg109
 z46:=sizeOf109
 v46:=zeroValue109
 t51:=underlying268
 a51:=isAgg268
 z51:=sizeOf268
 v51:=zeroValue268
 t53:=underlying185
 a53:=isAgg185
 z53:=sizeOf185
 v53:=zeroValue185
 t70:=underlying194
 a70:=isAgg194
 z70:=sizeOf194
 v70:=zeroValue194
 t72:=underlying196
 a72:=isAgg196
 z72:=sizeOf196
 v72:=zeroValue196
 t75:=underlying199
 a75:=isAgg199
 z75:=sizeOf199
 v75:=zeroValue199
 t76:=underlying200
 a76:=isAgg200
 z76:=sizeOf200
 v76:=zeroValue200
 t109:=underlying221
 a109:=isAgg221
 z109:=sizeOf221
 v109:=zeroValue221
 t127:=underlying252
 a127:=isAgg252
 z127:=sizeOf252
 v127:=zeroValue252
 t146:=underlying269
 a146:=isAgg269
 z146:=sizeOf269
 v146:=zeroValue269
 t148:=underlying271
 a148:=isAgg271
 z148:=sizeOf271
 v148:=zeroValue271
 t164:=underlying309
 a164:=isAgg309
 z164:=sizeOf309
 v164:=zeroValue309}
def aS:Builder.Extra Qc aP:={
 sizeBuilder:=Z
 liesBuilder:=Z
 t5:=underlying5
 a5:=isAgg5
 z5:=sizeOf5
 v5:=zeroValue5
 infoByte:=Z
 cellsByte:=Z
 sizeByte:=Z
 neB5:=V}
end Go.Proofs
namespace Go.Vd
open Go.Proofs Go.RowKit
def aBe(t:Int):Bool:=decide (1<=t∧t<=6)
def Sw(t:Int):Int:=if aBe t=true then 1+t*16 else 0
def aXD:=Ar []
def aQX:=RF aXD aMd [.t 2] 9
def aUa:Kq aQX 141:=Ap (Aj func141) Ad
def aIW(t:Int):aQX [.int .i64 t]=some (.bool (aBe t)):=by
 refine Al (Qa rfl) ?_;unfold aMd;unfold aBe;by_cases c:1<=t
 ·have c':((1:Int)<=t)=True:=eq_true c;simp only[↓C2,G9,G7,simprocAttr,c']
  all_goals exact Y6
 ·have c':((1:Int)<=t)=False:=eq_false c;simp only[↓C2,G9,G7,simprocAttr,c']
  all_goals exact Y6
def aQs:=Ar [(141,Ac aQX)]
def aEy:=RF aQs aMW [.t 2] 9
def aKG:Kq aEy 85:=Ap (Aj func85) (Aa aUa Ad)
def rU(t:Int):aEy [.int .i64 t]=some (.int .i64 (Sw t)):=by
 refine Al (Qa rfl) ?_;unfold aMW;have a:=aIW t;unfold Sw;cases c:aBe t with
 |false=>
  rw[c]at a;simp only[↓C2,G9,G7,simprocAttr,Ae aQs 141,a]
  all_goals exact Y6
 |true=>
  have o:1<=t∧t<=6:=by simpa[aBe]using c
  have j:IntKind.i64.wrap (t*16)=t*16:=Hy O O;have i:IntKind.i64.wrap (1+t*16)=1+t*16:=Hy O O;rw[c]at a;simp only[↓C2,G9,G7,simprocAttr,Ae aQs 141,a,j,i]
  all_goals exact Y6
def RP:List D->Option D
 |[.str s,.int .i64 c]=>if 0<=c∧c<=1000000∧s.length*c.toNat<=1000000 then some (.str (Lib.repeatL s c.toNat))else none
 |_=>none
def aKH:Kq RP 84:=UL ⟨_,func84,Z,Z⟩ λds r h=>by
 unfold RP at h;split at h
 ·rename_i s c;split at h
  ·rename_i z;simp only[Qt]at h;subst h;refine⟨λd p=>?_,_,λw g=> .str _,λw=>?_⟩
   ·simp only[Qn,List.mem_nil_iff,or_false]at p;rcases p with rfl|rfl<;>rfl
   ·have f:=Go.Proofs.Any.strings_Repeat bH aS ⟨s.toArray⟩ c.toNat w O (by show s.toArray.size*_<=_;simp only[List.size_toArray];omega);rw[QW z.1]at f;refine f.mono ?_;rintro e m ⟨rfl,o⟩;exact⟨rfl,o⟩
  ·cases h
 ·cases h
def aVZ{s:Bs}{c:Int}(h:0<=c∧c<=1000000∧s.length*c.toNat<=1000000):RP [.str s,.int .i64 c]=some (.str (Lib.repeatL s c.toNat)):=if_pos h
def uE(o:Oc)(te:Int):Oc:={({o with vw:={o.vw with te:=te+1}}:Oc).op 1 (An 5 [] 0) (Lib.repeatL [0] (Sw (te+1)).toNat)with rep:=Is .done}
def S57:=Ar [(144,wQ ON),(211,Ac Fs),(85,Ac aEy),(84,Ac RP),(210,wQ Oa),(146,wQ zG)]
def W57:Wb->Oc->List D->Option WY:=RW S57 aPT [] 34
def aW0:(wQ W57).ok Qc 147:=Dn (Aj func147) (Aa Sx (Aa IP (Aa aKG (Aa aKH (Aa MS (Aa kA Ad))))))
def aEf(w:Wb)(o:Oc)(b:Oc)(ol:Option (List Nat))(g:o.nl=true->o.ops=[])(u:6<=w.v.te)(y:ON w o [.int .i64 19]=some (.tup [],b,ol)):W57 w o []=some (.tup [],b,ol.map (·++[7])):=by
 refine Ba g ⟨Qa rfl,λh=>CA y h,λl h=>Cz y h,λi m fr t x j p n0=>?_⟩;have q:=Wt.start x j;unfold aPT;have c:=AM x.1;simp only[↓C2,Hc,Hl,G7,simprocAttr,c,eq_true u,AD S57 144];refine Aq q y (λM c1 n=>?_);simp only[↓C2,Hc,simprocAttr];exact c1.endc x.2.2
def aQg(w:Wb)(o:Oc)(te:Int)(q:iD o)(g:¬6<=w.v.te)(b:o.vw.te=te)(f:0<=te∧te<=5):W57 w o []=some (.tup [],uE o te,some ([11,28])):=by
 refine Ba (λ_=>q.ops) ⟨Qa rfl,λh=>Xc,λl h=>XC,λi m fr t x j ja n0=>?_⟩;have e:=Wt.start x j;unfold aPT;have xx:=AM x.1;have hw:IntKind.i64.wrap (te+1)=te+1:=Hy O O;have y:=CY 5 0 [] U;have d:=rU (te+1);have hl:0<=Sw (te+1)∧Sw (te+1)<=1000:=by unfold Sw;split<;>omega
 have a:=aVZ (s:=[0]) (c:=Sw (te+1)) ⟨hl.1,O,YG⟩;have na:=DQ w {o with vw:={o.vw with te:=te+1}} 1 (An 5 [] 0) (Lib.repeatL [0] (Sw (te+1)).toNat) (λ_=>q.ops) (by simp only[q.ops];simp);have k:=I7 w (({o with vw:={o.vw with te:=te+1}}:Oc).op 1 (An 5 [] 0) (Lib.repeatL [0] (Sw (te+1)).toNat)) (λh=>Xc);have z:=e.cellp (p:=26) (ys:=[.int .i64 (te+1)]) (o':={o with vw:={o.vw with te:=te+1}}) (Qa rfl) rfl rfl rfl;simp only[Hb,↓C2,G7,simprocAttr,xx,eq_false g,hw,Ae S57 211,y,Ae S57 85,d,Ae S57 84,a,AD S57 210,b];refine Cv z na (λM u hu c1 n=>?_);simp only[↓C2,H_,simprocAttr];refine Au.intro ?_ ?_
 ·intro pp r l hl;simp only[Qn,Zl,or_false]at r;subst r;exact En hl
 simp only[↓C2,Hc,Hl,simprocAttr,AD S57 146];refine Aq c1 k (λM2 d1 d2=>?_);simp only[↓C2,Hc,simprocAttr];exact d1.endl (l:=[11,28]) U
def aCL:=y0 Tryz.f212 [] []
def aR4{P:Program}{f:FuncId}{A B:List D->Option D}(k:(Ac A).ok P f)(v:(Ac B).ok P f):(Ac λds=>(A ds).or (B ds)).ok P f:=by
 refine⟨k.1,λds m m' fr _=>rfl,?_⟩;intro t w0 w m g fr ds vs r u hi o hl b z;have h:(Ac A).ex ds m fr=some (r,u)∨(Ac B).ex ds m fr=some (r,u):=by
  simp only[Ac]at z ⊢;split at z
  ·rename_i n;simp only[n,if_true];cases ha:A (ds.map D.un)with
   |none=>rw[ha]at z;exact .inr z
   |some x=>rw[ha]at z;exact .inl z
  ·cases z
 rcases h with h|h
 ·obtain⟨_,_,i⟩:=k;exact i hi o hl b h
 ·obtain⟨_,_,i⟩:=v;exact i hi o hl b h
def growZ:HF where
 rd:=λ_ _=>[]
 ex:=λds _ _=>match ds with
  |[.slice true _ [],.int .i64 0]=>some (.slice true [] [],[])
  |_=>none
def zP(w:World):Calls Qc 250 #[.slice none 0 0,.int .i64 0] w λe m=>e= .returned (.slice none 0 0)∧m=w:=by
 go_enter func250,ntmps250
 go_wp2
 all_goals go_ret
 all_goals exact⟨rfl,rfl⟩
def aWP:growZ.ok Qc 250:=by
 refine⟨⟨_,func250,Z,Z⟩,λds m m' fr _=>rfl,?_⟩;intro B w0 w m g fr ds vs r u hi q hl b z;simp only[growZ]at z;split at z
 ·simp only[Qt,QU]at z;obtain⟨rfl,rfl⟩:=z
  match vs,hl with
  |[v0,v1],_=>
   have n:=b 0 _ v0 rfl rfl;have s:=(b 1 _ v1 rfl rfl).int_inv;subst s;have y:v0= .slice none 0 0:=by
    rcases n.slice_inv with ⟨_,_,e⟩|⟨h,_⟩
    ·exact e
    ·cases h
   subst y;refine(zP w).mono ?_;rintro ev k ⟨rfl,f⟩;subst f;have o:=Below.refl k.heap.size k;exact⟨_,g.over k k,rfl,hi.over o,Hr.over hi.gz o,.nils _,λi a _=>a⟩
 ·cases z
def aNp:=Ar [(250,growZ)]
def aEX:=RF aNp (GC 9 68 3 32 250) [.t 2] 36
def aPg:Kq aEX 190:=Ap aCh (Aa aWP Ad)
def aB7{m:Ha}{fr:Id}:growZ.ex [.slice true [] [],.int .i64 0] m fr=some (.slice true [] [],[]):=rfl
def aEW{t:Id}:aEX [.slice false [] [.slice false [] [],.slice false [] []]]=some (.slice true [] []):=by
 refine Al (Qa rfl) ?_;have a:aNp 250=some growZ:=rfl;have w0:IntKind.i64.wrap 0=0:=rfl;have j:IntKind.i64.wrap 1=1:=rfl;have i:IntKind.i64.wrap 2=2:=rfl;have y0:((0:Nat):Int)=0:=rfl;have y1:((1:Nat):Int)=1:=rfl;have y2:((2:Nat):Int)=2:=rfl;have m:(0:Int)+1=1:=rfl;have w:(1:Int)+1=2:=rfl;unfold GC;simp only[↓C2,Hc,G7,simprocAttr,Qg,Qb];refine Af (Mg.eq_1 _) ?_;simp only[↓C2,G9,G7,simprocAttr,y0,w0,j,m,Q1,Qg,Qb];refine Af (Mg.eq_1 _) ?_;simp only[↓C2,G9,G7,simprocAttr,y0,w0,i,w,ZC,Qg,Qb];refine Af (Mg.eq_1 _) ?_;simp only[↓C2,G9,G7,simprocAttr,AE a,aB7,Qg,Qb];refine Af (Mf.eq_1 _ _ _) ?_;simp only[↓C2,G9,G7,simprocAttr,j,m,Q1,Qg,Qb];refine Af (Mf.eq_1 _ _ _) ?_;simp only[↓C2,G9,G7,simprocAttr,i,w,ZC,Qg,Qb];refine Af (Mf.eq_1 _ _ _) ?_;simp only[↓C2,G9,G7,simprocAttr]
 all_goals exact Y7
def EG(l:List Mt)(p:Bs):List Mt:=l.take (BC l p).toNat++l.drop ((BC l p).toNat+1)
def gX:List D->Option D:=λds=>(OR ds).or (aEX ds)
def aPh:Kq gX 190:=aR4 (aSY aKg) aPg
def aFE{a b:List Mt}(h:a.length+b.length<=1000):gX [.slice false [] [.slice false [] (AB a),.slice false [] (AB b)]]=some (.slice (decide (a++b=[])) [] (AB (a++b))):=by
 by_cases c:a++b=[]
 ·obtain⟨rfl,rfl⟩:=List.append_eq_nil_iff.1 c;unfold gX;rw[show AB []=[]from rfl,aEW (t:=[])];rfl
 ·grind [OR,AB,Fi,AY,pC,gX]
def aIj:=Ar [(187,Ac aFH),(190,Ac gX)]
def yL:=RF aIj aCL [.cell (some 1) 4,.t 5] 25
def aUo:Kq yL 212:=Ap (Aj func212) (Aa aAZ (Aa aPh Ad))
def aJc(nl:Bool)(l:List Mt)(p:Bs)(hl:l.length<=1000)(k:BC l p<0):yL [.agg [.slice nl [] (AB l)],.str p]=some (.tup [.agg [.slice nl [] (AB l)],.int .i64 14]):=by
 refine Al (Qa rfl) ?_;unfold aCL;have z:=PJ (nl:=nl) (t:=[]) (l:=l) (p:=p) O;simp only[Hb,↓C2,G7,simprocAttr,Ae aIj 187,z,eq_true k]
 all_goals exact Y6
def aEv(nl:Bool)(l:List Mt)(p:Bs)(hl:l.length<=1000)(g:nl=true->l=[])(n:¬BC l p<0)(hi:(BC l p).toNat<l.length):yL [.agg [.slice nl [] (AB l)],.str p]=some (.tup [.agg [.slice (decide (EG l p=[])) [] (AB (EG l p))],.int .i64 0]):=by
 refine Al (Qa rfl) ?_;unfold aCL;have z:=PJ (nl:=nl) (t:=[]) (l:=l) (p:=p) O;have y:nl=false:=by
  grind
 subst y;unfold EG;generalize BC l p=q at *;have v:(0:Int)<=q:=O
 have w:((q.toNat:Nat):Int)=q:=QW v;have f:IntKind.i64.wrap (q+1)=q+1:=Hy O O;have m:(q+1).toNat=q.toNat+1:=O
 have c:=aFE (a:=l.take q.toNat) (b:=l.drop (q.toNat+1)) YN;have s:aE (AB l) 3=3:=XH
 have u:q.toNat<=l.length:=O
 have x:q.toNat+1<=l.length:=O
 have e:(q<=(l.length:Int))=True:=eq_true O;have i2:(q+1<=(l.length:Int))=True:=eq_true O;have j:(0:Int)<=q+1:=O
 have o:ZA q.toNat (AB l)=AB (l.take q.toNat):=(ZO ..).symm;have r:List.drop (q.toNat+1) (AB l)=AB (l.drop (q.toNat+1)):=(List.map_drop ..).symm;have i:ZA (l.length-(q.toNat+1)) (AB (l.drop (q.toNat+1)))=AB (l.drop (q.toNat+1)):=QJ (by rw[AY,List.length_drop];omega);simp only[Hb,↓C2,G7,simprocAttr,Ae aIj 187,z,eq_false n,f,AY,v,m,s,j,e,i2,Q2,o,r,i,Qe,Ae aIj 190,c];refine Au.intro (λp k=>by cases k) ?_;simp only[Hb,↓C2,G7,simprocAttr]
 all_goals exact Y6
def Ij(a:Ak):(Hw a)[0]?=some (.int .u8 a.op):=rfl
def T8(a:Ak):(Hw a)[2]?=some (.str a.pa):=rfl
def rD(a:Ak):(Hw a)[3]?=some (.str a.ot):=rfl
def aDY(a:Ak):(Hw a)[10]?=some (.str a.key):=rfl
def H8(v:Vw):(HH v)[0]?=some (.bool v.se):=rfl
def SS(v:Vw):(HH v)[2]?=some (.str v.key):=rfl
def nG(v:Vw):(HH v)[3]?=some (.slice v.nlm [] (AB v.ms)):=rfl
def aAK{m:Ha}{v:Vw}{a:Ak}:Ag ((m.put [0] 0 (HH v)).put [1] 0 (Hw a)) [0] 0 5=some (HH v):=by
 grind [AG,Az,Cy]
def W6{m:Ha}{a:Ak}:Ag (m.put [1] 0 (Hw a)) [1] 0 11=some (Hw a):=Az (AU a)
def aOt{m:Ha}{x:List D}{n:Nat}:Ag (m.put [14] 0 x) [0] 0 n=Ag m [0] 0 n:=AG V
open Classical in
def aJM{nl:Bool}{l:List Mt}{p:Bs}(hl:l.length<=1000000):aFB [.agg [.slice nl [] (AB l)],.str p]=some (.tup (if BC l p<0 then [ML ([],0,false),.int .i64 14]else [ML (Cd l (BC l p).toNat),.int .i64 0])):=by
 have h:AB l=AB (Dx (AB l))∧(AB l).length<=1000000:=XN
 show(if _ then _ else _)=_;rw[if_pos h,BN]
open Classical in
def aJL{v:Vw}{p:Bs}(hl:v.ms.length<=1000000):aFA [HZ v,.str p]=some (.bool (decide (A0 v.ms p≠-1))):=by
 have h:AB v.ms=AB (Dx (AB v.ms))∧(AB v.ms).length<=1000000:=XN
 show(if _ then _ else _)=_;rw[if_pos h,BN]
def GN(v:Vw)(a:Ak):Bool:=decide (a.op<=8)||(((decide (a.op=17)&&decide (0<=BC v.ms a.pa))||decide (A0 v.ms a.pa≠-1))&&(decide (a.op≠18)||decide (A0 v.ms a.ot≠-1)))
def F70:List D->Option D:=FX L1 (λp=>R3 p.1) (λp=> .bool (GN p.1 p.2))
def aQ3{v:Vw}{a:Ak}(h:R3 v):F70 [HZ v,HA a]=some (.bool (GN v a)):=B3 (mk:=L1) (a:=(v,a)) P6 h
def aWw:Kq F70 209:=by
 obtain⟨S,w,hl⟩:=Bv (Aa aKj (Aa aSM (Aa aSL Ad)));have c:=hl 262 _ rfl;have i:=hl 265 _ rfl;have m:=hl 266 _ rfl;clear hl;refine C0 w (Aj func209:Fn Qc 209 44 aUK [.t 4]) (λ_=>by simp[L1]) (λp r=>?_);obtain⟨v,a⟩:=p;simp only at r;have za:=r.ml;have f:aFC [.int .u8 a.op]=some (.bool (decide (a.op<=8))):=rfl;have b:=aJM (nl:=v.nlm) (l:=v.ms) (p:=a.pa) O;have k:∀q,aFA [.agg (HH v),.str q]=some (.bool (decide (A0 v.ms q≠-1))):=λq=>aJL O
 have d:=k a.pa;have j:=k a.ot;unfold aUK L1 HZ HA GN;simp only;by_cases s:a.op<=8
 ·rw[decide_eq_true s]at f;simp only[↓C2,G9,simprocAttr,Ij,H8,Bz,Cy,AO,AU,Qj,ne_eq,Zq,Ah,Qf,QK,Qj,and_self,Qk,Ql,s,Ab c,f]
 ·rw[decide_eq_false s]at f;generalize decide (A0 v.ms a.pa≠-1)=u at d ⊢;generalize decide (A0 v.ms a.ot≠-1)=x at j ⊢;generalize BC v.ms a.pa=fi at b ⊢;clear k;by_cases y:a.op=17
  ·have h:(a.op=17)=True:=eq_true y;have g:(a.op=18)=False:=eq_false O;clear y;by_cases hf:fi<0
   ·have n:¬0<=fi:=by omega
    rw[if_pos hf]at b;cases u<;>simp only[↓C2,Ho,simprocAttr,Ij,T8,rD,H8,SS,nG,MB,aOt,Az,aAK,Iu,Iv,Bz,Cy,AO,AU,ne_eq,Zq,ZD,Zr,ZN,Ah,QE,Qk,QA,Ql,s,n,h,g,Ab c,f,Ab i,b,Ab m,d,ML]
   ·have n:0<=fi:=by omega
    rw[if_neg hf]at b;generalize Cd v.ms fi.toNat=mt at b;simp only[↓C2,Ho,simprocAttr,Ij,T8,rD,H8,SS,nG,MB,Az,Bz,Cy,AO,AU,ne_eq,Zq,Zr,Ah,QE,Qk,QA,Ql,s,n,h,g,Ab c,f,Ab i,b,ML]
  ·have h:(a.op=17)=False:=eq_false y;obtain⟨mt,e,z⟩:∃(mt:Mt)(e:Int),aFB [.agg [.slice v.nlm [] (AB v.ms)],.str a.pa]=some (.tup [ML mt,.int .i64 e]):=by
    grind
   clear b;by_cases o:a.op=18
   ·have g:(a.op=18)=True:=eq_true o;clear o y;cases u<;>cases x<;>simp only[↓C2,Ho,simprocAttr,Ij,T8,rD,H8,SS,nG,MB,aOt,Az,aAK,Iu,Iv,Bz,Cy,AO,AU,ne_eq,Zx,ZD,Zr,ZN,Ah,QE,Qk,QA,and_false,Ql,s,h,g,Ab c,f,Ab i,z,Ab m,d,j,ML]
   ·have g:(a.op=18)=False:=eq_false o;clear o y;cases u<;>simp only[↓C2,Ho,simprocAttr,Ij,T8,rD,H8,SS,nG,MB,aOt,Az,aAK,Iu,Iv,Bz,Cy,AO,AU,ne_eq,Zx,Zq,ZD,Zr,Ah,QE,Qk,QA,Ql,s,h,g,Ab c,f,Ab i,z,Ab m,d,ML]
def Im(v:Vw)(a:Ak):Int:=if Ca a≠0 then Ca a else if a.op=1 then 0 else if a.op=2 then(if v.se=false then 9 else if a.key≠v.key then 11 else 0)else if v.se=true then 12 else if P_ v a=false then 13 else if GN v a=false then 14 else 0
def zI:List D->Option D:=FX L1 (λp=>R3 p.1∧HJ p.2) (λp=> .int .i64 (Im p.1 p.2))
def V8{v:Vw}{a:Ak}(h:R3 v)(y:HJ a):zI [HZ v,HA a]=some (.int .i64 (Im v a)):=B3 (mk:=L1) (a:=(v,a)) P6 ⟨h,y⟩
def aWD:Kq zI 143:=by
 obtain⟨S,w,hl⟩:=Bv (Aa aWy (Aa aWx (Aa aWw Ad)));have c:=hl 207 _ rfl;have h:=hl 208 _ rfl;have i:=hl 209 _ rfl;clear hl;refine C0 w (Aj func143:Fn Qc 143 52 aU0 [.t 4]) (λ_=>by simp[L1]) (λp k=>?_);obtain⟨v,a⟩:=p;obtain⟨m,x⟩:=k;simp only at m x;have b:F68 [.agg (Hw a)]=some (.int .i64 (Ca a)):=aQ5 x;have d:F69 [.agg (HH v),.agg (Hw a)]=some (.bool (P_ v a)):=aQ4 m;have g:F70 [.agg (HH v),.agg (Hw a)]=some (.bool (GN v a)):=aQ3 m;unfold aU0 L1 HZ HA Im;simp only;generalize Ca a=e at b ⊢;generalize P_ v a=o at d ⊢;generalize GN v a=b2 at g ⊢;by_cases r:e=0
 ·subst r;by_cases u:a.op=1
  ·have z:(a.op=1)=True:=eq_true u;clear u;simp only[↓C2,G9,simprocAttr,Ij,H8,W6,Bz,Cy,BQ,BR,AO,AU,Qj,ne_eq,Ah,Qf,QK,Qj,and_self,Qk,Ql,z,Ab c,b]
  ·have z:(a.op=1)=False:=eq_false u;by_cases y:a.op=2
   ·have j:(a.op=2)=True:=eq_true y;clear u y;cases hse:v.se with
    |false=>
     simp only[↓C2,G9,simprocAttr,Ij,H8,W6,Bz,Cy,BQ,BR,AO,AU,Qj,ne_eq,Ah,Qf,QK,Qj,and_self,Qk,QA,Ql,z,j,hse,Ab c,b]
    |true=>
     by_cases s:a.key=v.key
     ·have f:(a.key=v.key)=True:=eq_true s;have pa:(a.key==v.key)=true:=by rw[s];simp
      clear s;simp only[↓C2,G9,simprocAttr,Ij,T8,aDY,H8,SS,W6,Bz,Cy,BQ,BR,AO,AU,Qj,ne_eq,Ah,Qf,QK,Qj,and_self,Qk,QA,and_false,Ql,z,j,hse,f,Ab c,b]
     ·have f:(a.key=v.key)=False:=eq_false s;have pa:(a.key==v.key)=false:=by simpa using s
      clear s;simp only[↓C2,G9,simprocAttr,Ij,T8,aDY,H8,SS,W6,Bz,Cy,BQ,BR,AO,AU,Qj,ne_eq,Ah,Qf,QK,Qj,and_self,Qk,QA,and_false,Ql,z,j,hse,f,Ab c,b]
   ·have j:(a.op=2)=False:=eq_false y;clear u y;cases hse:v.se with
    |true=>
     simp only[↓C2,G9,simprocAttr,Ij,H8,W6,Bz,Cy,BQ,BR,AO,AU,Qj,ne_eq,Ah,Qf,QK,Qj,and_self,Qk,QA,Ql,z,j,hse,Ab c,b]
    |false=>
     cases o with
     |false=>
      simp only[↓C2,G9,simprocAttr,Ij,H8,W6,aAK,Iu,Iv,Bz,Cy,BQ,BR,AO,AU,Qj,ne_eq,Ah,Qf,QK,Qj,and_self,Qk,QA,Ql,z,j,hse,Ab c,b,Ab h,d]
     |true=>
      cases b2<;>simp only[↓C2,G9,simprocAttr,Ij,H8,W6,aAK,Iu,Iv,Bz,Cy,BQ,BR,AO,AU,Qj,ne_eq,Ah,Qf,QK,Qj,and_self,Qk,QA,Ql,z,j,hse,Ab c,b,Ab h,d,Ab i,g]
 ·simp only[↓C2,G9,simprocAttr,W6,Bz,BQ,BR,AO,Qj,ne_eq,Qj,and_self,r,Ab c,b]
def aHu(k:Bs)(nl:Bool):Vw:=⟨false,1,k,true,[],nl,[CD]⟩
def F23:List D->Option D
 |[.str k]=>some (HZ (aHu k false))
 |_=>none
def aWE:Kq F23 78:=by
 obtain⟨S,w,hl⟩:=Bv (Aa aSa Ad);have a:=hl 80 _ rfl;clear hl;refine AN (S:=S) w (Aj func78:Fn Qc 78 6 aU1 [.cell (some 5) 2]) (λds r h=>?_) (λds r h=>?_)
 ·unfold F23 at h;split at h
  ·simp
  ·cases h
 ·unfold F23 at h;split at h
  ·simp only[Qt]at h;subst h;have f:F48 []=some (.agg [.slice false [] (AJ [CD])]):=rfl;unfold aU1;simp only[↓C2,Ho,simprocAttr,Cg,FE,QC,QV,Q6,Ab a,f,Ah,Av,Aw,Zm,Ze,Zf,QE,Q2,List.drop_succ_cons,Bx,AW]
   all_goals exact Y7
  ·cases h
def aD2(s:Bool×List Mt)(m:Mt):Bool×List Mt:=match (xR s.2 m).1 with
 |none=>s
 |some l=>(false,l)
open Classical in
def aQ6{nl0 nl:Bool}{l:List Tk}{n p:Bs}{rs:List Rl}(hl:l.length<=90000)(s:∀k∈l,MC k.2.2.2)(g:nl=true->rs=[])(j:MC rs)(u:n.length<=1000000)(y:p.length<=1000000):
  F50 [.agg [.slice nl0 [] (AJ l)],.agg [.str n,.str p,.slice nl [] (As rs)]]=some (.tup [WI nl0 l (Ig l (n,p,nl,rs)).1,.int .i64 (Ig l (n,p,nl,rs)).2]):=by
 have h:(Fz (AJ l)∧(AJ l).length<=90000∧∀k∈Dv (AJ l),MC k.2.2.2)∧Ot nl (As rs)∧MC (Bo (As rs))∧n.length<=1000000∧p.length<=1000000:=
  ⟨⟨E_ O,by rw[B5];exact hl,by rw[BL];exact s⟩,Mx j.1 g,by rw[A5];exact j,u,y⟩
 show(if _ then _ else _)=_;rw[if_pos h,BL,A5]
def z5:List D:=[.bool false,.int .i64 0,.str [],.slice true [] [],.slice true [] []]
open Classical in
def sN{nl:Bool}{l:List Tk}(hl:l.length<=1000000):nC [.agg [.slice nl [] (AJ l)]]=some (.slice (decide (l.length=0)) [] (l.map λk=> .str k.1)):=by
 have h:Fz (AJ l):=E_ hl;show(if _ then _ else _)=_;rw[if_pos h,BL]
theorem bl_irr:∀a:Bs,Op.bytesLess a a=false
 |[]=>rfl
 |x::r=>by simp[Op.bytesLess,bl_irr r]
def N6:∀{a b:Bs},a≠b->Op.bytesLess a b=!Op.bytesLess b a
 |[],[],h=>absurd rfl h
 |[],y::s,_=>rfl
 |x::r,[],_=>rfl
 |x::r,y::s,h=>by
  simp only[Op.bytesLess];by_cases c:x=y
  ·simp_all [N6]
  ·grind
def RY:∀{a b c:Bs},Op.bytesLess a b=true->Op.bytesLess b c=true->Op.bytesLess a c=true
 |a,b,[],h1,h2=>by simp[Op.bytesLess]at h2
 |a,[],z::t,h1,h2=>by cases a<;>simp[Op.bytesLess]at h1
 |[],y::s,z::t,h1,h2=>rfl
 |x::r,y::s,z::t,h1,h2=>by
  simp only[Op.bytesLess,Zt,QB,decide_eq_true_eq,beq_iff_eq]at h1 h2 ⊢;rcases h1 with h1|⟨rfl,h1⟩
  ·grind
  ·rcases h2 with h2|⟨rfl,h2⟩
   ·left;exact h2
   ·right;exact⟨rfl,RY h1 h2⟩
def Fl(l:List Mt):Prop:=∀i j,i<j->j<l.length->Op.bytesLess (l.getD i m0t).1 (l.getD j m0t).1=true
def PE{a b:Bs}:decide (CV a b<0)=Op.bytesLess a b:=by
 grind [CV]
def aBO{l:List Mt}{m:Mt}(g:∀i,i<l.length->(l.getD i m0t).1≠m.1):∀j,j<=l.length->kR jU m0t l m j=hZ l m.1 j
 |0,_=>rfl
 |j+1,hj=>by
  have ih:=aBO g j O;have p:=N6 (g j O);have u:jU m (l.getD j m0t)=Op.bytesLess m.1 (l.getD j m0t).1:=PE;unfold kR hZ;rw[u,show Cd l j=l.getD j m0t from rfl,p];cases Op.bytesLess m.1 (l.getD j m0t).1
  ·simp
  ·simpa using ih
theorem TM{l:List Mt}{p:Bs}(h:¬0<=BC l p):∀i,i<l.length->(l.getD i m0t).1≠p:=by
 have u:=GU (l.map λm=>decide (m.1=p));have y:decide (0<=Bc (l.map λm=>decide (m.1=p)))=false:=decide_eq_false h;rw[y]at u;intro i hi e;have x:=Zj.1 u.symm (decide ((l.getD i m0t).1=p)) (Qp.2 ⟨l[i],QL hi,by simp[Qz,hi]⟩);exact x (decide_eq_true e)
theorem N8{l:List Mt}{m:Mt}(h:Fl l):Fr l m=xR l m:=by
 unfold Fr xR;split
 ·rfl
 split
 ·rfl
 rename_i k;split
 ·rfl
 split
 ·rfl
 have g:∀i,i+1<l.length->jU (l.getD (i+1) m0t) (l.getD i m0t)=false:=λi hi=>by
  have u:=h i (i+1) O hi;unfold jU;rw[PE];have t:(l.getD (i+1) m0t).1≠(l.getD i m0t).1:=λe=>by rw[e,bl_irr]at u;cases u
  rw[N6 t,u];rfl
 have hi:=Tx jU m0t l m g l.length 1 (Qe _) O;rw[hi,aBO (TM k) l.length (Qe _)];split
 ·simp_all
 ·rfl
def aBP{l:List Mt}{p:Bs}:∀j,hZ l p j=0∨Op.bytesLess (l.getD (hZ l p j-1) m0t).1 p=true
 |0=> .inl rfl
 |j+1=>by
  unfold hZ;split
  ·rename_i h;right;exact h
  ·exact aBP j
def pM{l:List Mt}{p:Bs}:∀j i,hZ l p j<=i->i<j->Op.bytesLess (l.getD i m0t).1 p=false
 |0,i,_,h=>O
 |j+1,i,h1,h2=>by
  unfold hZ at h1;split at h1
  ·omega
  ·rename_i h;by_cases e:i=j
   ·subst e;exact Bool.eq_false_iff.2 h
   ·exact pM j i h1 O
def Rb{α:Type}{l:List α}{m d:α}{k i:Nat}(s:k<=l.length):(l.take k++m::l.drop k).getD i d=if i<k then l.getD i d else if i=k then m else l.getD (i-1) d:=by
 grind
theorem aAk{l:List Mt}{m:Mt}(h:Fl l)(g:∀i,i<l.length->(l.getD i m0t).1≠m.1):Fl (l.take (hZ l m.1 l.length)++m::l.drop (hZ l m.1 l.length)):=by
 have s:=aBN l m.1 l.length;have h1:=aBP (l:=l) (p:=m.1) l.length;have y:=pM (l:=l) (p:=m.1) l.length;generalize hZ l m.1 l.length=k at s h1 y;have lo:∀i,i<k->Op.bytesLess (l.getD i m0t).1 m.1=true:=λi hi=>by
  rcases h1 with h1|h1
  ·omega
  ·by_cases e:i=k-1
   ·rw[e];exact h1
   ·exact RY (h i (k-1) O O) h1
 have hi:∀i,k<=i->i<l.length->Op.bytesLess m.1 (l.getD i m0t).1=true:=λi x h4=>by
  rw[N6 (λe=>g i h4 e.symm),y i x h4];rfl
 intro i j z q;have v:(l.take k++m::l.drop k).length=l.length+1:=by
  grind
 rw[v]at q;rw[Rb s,Rb s];by_cases a1:i<k
 ·rw[if_pos a1];by_cases u:j<k
  ·rw[if_pos u];exact h i j z O
  ·rw[if_neg u];by_cases f:j=k
   ·simp_all
   ·rw[if_neg f];exact h i (j-1) O O
 ·rw[if_neg a1];have u:¬j<k:=by omega
  have f:¬j=k:=O
  rw[if_neg u,if_neg f];by_cases b:i=k
  ·grind
  ·rw[if_neg b];exact h (i-1) (j-1) O O
def mK{s:Bool×List Mt}{m:Mt}(h:Fl s.2):Fl (aD2 s m).2:=by
 unfold aD2 xR;by_cases u:C7 m.1 m.2.1≠0
 ·rw[if_pos u];exact h
 ·rw[if_neg u];by_cases y:0<=BC s.2 m.1
  ·rw[if_pos y];exact h
  ·grind [II,aAk,TM]
def GG(l:List Tk):Prop:=∀i j,i<j->j<l.length->Op.bytesLess (Bu l i).1 (Bu l j).1=true
def AtT(l:List Tk)(s:Bs)(r:Nat):Prop:=r<=l.length∧(∀i,i<r->Op.bytesLess (Bu l i).1 s=true)∧∀i,r<=i->i<l.length->Op.bytesLess (Bu l i).1 s=false
def AtT.uniq{l:List Tk}{s:Bs}{r q:Nat}(h:AtT l s r)(k:AtT l s q):r=q:=by
 rcases ZE r q with e|e|e
 ·have u:=h.2.2 r (Qe _) (by have:=k.1;omega);rw[k.2.1 r e]at u;cases u
 ·exact e
 ·have u:=k.2.2 q (Qe _) (by have:=h.1;omega);rw[h.2.1 q e]at u;cases u
theorem Ts{l:List Tk}(h:GG l){s:Bs}{i j:Nat}(z:i<=j)(q:j<l.length)(hl:Op.bytesLess (Bu l j).1 s=true):Op.bytesLess (Bu l i).1 s=true:=by
 by_cases e:i=j
 ·rw[e];exact hl
 ·exact RY (h i j O q) hl
def lZ{l:List Tk}(h:GG l){s:Bs}:∀(f lo hi:Nat),hi-lo<=f->lo<=hi->hi<=l.length->(∀i,i<lo->Op.bytesLess (Bu l i).1 s=true)->(∀i,hi<=i->i<l.length->Op.bytesLess (Bu l i).1 s=false)->AtT l s (bsR l s f lo hi)
 |0,lo,hi,hf,h1,h2,h3,h4=>by
  have:lo=hi:=O
  subst this;exact⟨h2,h3,h4⟩
 |f+1,lo,hi,hf,h1,h2,h3,h4=>by
  unfold bsR;split
  ·rename_i u;have n:(lo+hi) / 2<hi:=by omega
   have r:lo<=(lo+hi) / 2:=O
   split
   ·rename_i z;have y:Op.bytesLess (Bu l ((lo+hi) / 2)).1 s=true:=by rw[←PE];exact decide_eq_true z
    exact lZ h f _ hi O O h2 (λi j=>Ts h (show i<=(lo+hi) / 2 by omega) O y) h4
   ·rename_i z;have y:Op.bytesLess (Bu l ((lo+hi) / 2)).1 s=false:=by rw[←PE];exact decide_eq_false z
    refine lZ h f lo _ O r O h3 (λi m o=>?_);by_cases e:Op.bytesLess (Bu l i).1 s=true
    ·grind [Ts]
    ·simpa using e
  ·have:lo=hi:=by omega
   subst this;exact⟨h2,h3,h4⟩
def aDN{l:List Tk}(h:GG l)(s:Bs):AtT l s (LB l s):=lZ h l.length 0 l.length O O (Qe _) (λi hi=>absurd hi (ZJ _)) (λi u y=>O)
theorem TV{a b:Bs}:decide (CV a b=0)=decide (a=b):=by
 grind [CV,bl_irr]
def dO{l:List Tk}(h:GG l){j:Nat}(q:j<l.length):LB l (Bu l j).1=j∧A4 l (Bu l j).1=true:=by
 have e:LB l (Bu l j).1=j:=(aDN h _).uniq ⟨O,λi hi=>h i j hi q,λi u y=>by
  by_cases e:i=j
  ·rw[e];exact bl_irr _
  ·have x:=h j i O y;have t:(Bu l i).1≠(Bu l j).1:=λe=>by rw[e,bl_irr]at x;cases x
   rw[N6 t,x];rfl⟩
 refine⟨e,?_⟩;unfold A4;rw[e,TV];simp[q]
def iN(k:Tk):Bs×Bs×List Rl:=(k.1,k.2.1,k.2.2.2)
def LR(L M:List Tk):Prop:=L.map iN=M.map iN
def LR.len{L M:List Tk}(h:LR L M):L.length=M.length:=YY
def LR.at{L M:List Tk}(h:LR L M)(j:Nat):(Bu L j).1=(Bu M j).1∧(Bu L j).2.1=(Bu M j).2.1∧(Bu L j).2.2.2=(Bu M j).2.2.2:=by
 have u:(L.map iN)[j]?=(M.map iN)[j]?:=by rw[h]
 rw[Q7,Q7]at u;unfold Bu;simp only[Qz];cases hL:L[j]?<;>cases hM:M[j]?<;>rw[hL,hM]at u<;>simp[iN]at u<;>simp[u]
def LR.sort{L M:List Tk}(h:LR L M)(g:GG L):GG M:=λi j z q=>by
 rw[←(h.at i).1,←(h.at j).1];exact g i j z (by rw[h.len];exact q)
def LR.mid{L M:List Tk}(h:LR L M){k w:Tk}(s:iN k=iN w)(j:Nat):LR (L.take j++k::L.drop j) (M.take j++w::M.drop j):=by
 simp_all [LR]
def tJ{l:List Tk}{k:Tk}(h:GG l)(a:A4 l k.1=false):GG (EX l k):=by
 have c:=aDN h k.1;have t:∀i,i<l.length->(Bu l i).1≠k.1:=λi hi e=>by
  have:=(dO h hi).2;rw[e,a]at this;cases this
 unfold EX;generalize LB l k.1=q at c;obtain⟨g,lo,hi⟩:=c;have r:∀i,q<=i->i<l.length->Op.bytesLess k.1 (Bu l i).1=true:=λi u y=>by
  rw[N6 (λe=>t i y e.symm),hi i u y];rfl
 intro i j z b;have v:(l.take q++k::l.drop q).length=l.length+1:=by
  grind
 rw[v]at b;have w:∀i,Bu (l.take q++k::l.drop q) i=if i<q then Bu l i else if i=q then k else Bu l (i-1):=λi=>Rb g
 rw[w,w];by_cases a1:i<q
 ·rw[if_pos a1];by_cases x:j<q
  ·rw[if_pos x];exact h i j z O
  ·rw[if_neg x];by_cases f:j=q
   ·simp_all
   ·rw[if_neg f];exact h i (j-1) O O
 ·rw[if_neg a1];have x:¬j<q:=by omega
  have f:¬j=q:=O
  rw[if_neg x,if_neg f];by_cases p:i=q
  ·grind
  ·rw[if_neg p];exact h (i-1) (j-1) O O
def Sj(l:List Mt):Prop:=l.length<=1000∧∀m∈l,m.1.length<=1000
def aGy(s:Bs):Bs:=iB 2 s.length++s
def mtB(m:Mt):Bs:=aGy m.1++[UInt8.ofNat (m.2.1 % 256).toNat,if m.2.2 then 1 else 0]
def Fo(l:List Mt):Bs:=l.flatMap mtB
def PV(s:Bs):(aGy s).length=2+s.length:=by simp[aGy,beB_len]
def pD(m:Mt):(mtB m).length=4+m.1.length:=by simp[mtB,PV];omega
def SZ{l:List Mt}{j:Nat}(h:j<l.length):Fo (l.take (j+1))=Fo (l.take j)++mtB (Cd l j):=by
 have e:Cd l j=l[j]:=by simp[Cd,Qd h]
 rw[e,Fo,Fo,←List.take_append_getElem h,List.flatMap_append];simp
def cC{l:List Mt}{j:Nat}(h:j<l.length):Cd l j∈l:=by simp[Cd,Qd h]
def nR{l:List Mt}(h:Sj l):∀j,j<=l.length->(Fo (l.take j)).length<=1004*j
 |0,_=>by simp[Fo]
 |j+1,hj=>by
  have u:=nR h j O;have y:=h.2 _ (cC (show j<l.length by omega));rw[SZ O,Qh,pD];omega
def PA:=y1 f86 3 [] []
def aMV:=y0 f86 [] [(3,PA)]
def aMc:=y0 f142 [] []
def Pl:=y1 f201 2 [] []
def aLw:=y0 f201 [] [(2,Pl)]
def SO:List D->Option (List D×List Nat)
 |[.int .i64 s,.int .u64 n]=>if 1<=s∧s<=8∧0<=n then some (AH (iB s.toNat n),[13*s.toNat])else none
 |_=>none
set_option maxHeartbeats 1000000 in
def aHa{S:G8}{fr:Id}{m0:Ha}{nl0:Bool}{t0:Id}{emp:Bool}{n:Int}{sz:Nat}{Q:Ex->St->Prop}(la:sz<=8)(z:0<=n)(j:∀i o,fr<:+i->m0 i o=none)(va:BZ m0 5 nl0 t0 emp=true):
  ∀(k:Nat)(x:St)(nl:Bool)(t:Id)(xs:List D) g,k<=sz->xs.length+k<=200000000->(nl=true->xs=[])->x.c=5+13*(sz-k)->Gs 5 fr m0 nl0 t0 x.m x.c nl t->
   x.s 7= .int .i64 (8*(k:Int)-8)->x.s 0= .slice nl t xs->x.s 2= .int .u64 n->
   (∀r nl' t',r.s 0= .slice nl' t' (xs++AH (iB k n))->(k=0->nl'=nl∧t'=t∧r.m=x.m∧x.c<=r.c)->(0<k->nl'=false∧t'=[13*sz]++fr∧Gd 5 fr m0 nl0 t0 r.m r.c t')->Q (.exit 0) r)->Be S fr Pl Q x g:=by
 intro k;induction k with
 |zero=>
  intro x nl t xs g _ _ _ _ u h7 q y e;refine Af Pl.eq_1 ?_;have hn:((0:Int)<=8*((0:Nat):Int)-8)=False:=eq_false V;simp only[↓C2,Hc,Hl,simprocAttr,h7,hn];exact e _ nl t (by simp only[↓C2,reduceIte,Qw,q,iB,AH,Q6,Zu]) (λ_=>⟨rfl,rfl,rfl,Xa⟩) (λh=>absurd h O)
 |succ k ih=>
  intro x nl t xs g hk w na hc u h7 q y e;refine Af Pl.eq_1 ?_;have hn:((0:Int)<=8*((k+1:Nat):Int)-8)=True:=eq_true O;have f:((0:Int)<=8*((k+1:Nat):Int)-8):=O
  have v:min (8*((k+1:Nat):Int)-8).toNat IntKind.u64.bits=8*k:=by
   have:IntKind.u64.bits=64:=rfl;omega
  have hw:IntKind.i64.wrap (8*((k+1:Nat):Int)-8-8)=8*(k:Int)-8:=YR
  simp only[↓C2,G9,simprocAttr,Qb,Qg,h7,q,y,hn,v,Up,and_false];refine Au.intro ⟨O,rfl,Gs.grow (u.put (l:=[]) (k:=x.c+2+5) O) j va⟩ ?_;rw[B8 na];simp only[↓C2,G9,simprocAttr,h7,hw];have p:Gd 5 fr m0 nl0 t0 (Hf.app (x.m.put ((x.c+2+5)::fr) 0 [D.tok 6]) (Bh 5 ((x.c+2+6)::fr) (.slice nl t xs))) (x.c+2+8+3) ((x.c+2+6)::fr):=
   Gs.app (l:=[]) (u.put (l:=[]) (k:=x.c+2+5) O) O O
  refine ih _ false ((x.c+2+6)::fr) (xs++[.int .u8 ((((n.fdiv (2 ^ (8*k))) % 256).toNat:Nat):Int)]) _ O Xb U Xa p.gs rfl rfl y (λr nl' t' e1 e2 e3=>?_);refine e r nl' t' ?_ (λh=>absurd h O) (λ_=>?_)
  ·rw[e1,Q0];simp only[iB,AH,QV];rw[Iz O];rfl
  ·by_cases ya:k=0
   ·obtain⟨a,b,c,d⟩:=e2 ya;refine⟨a,?_,?_⟩
    ·grind
    ·rw[b,c];exact p.more d
   ·exact e3 O
def aJ9:(gQ 5 SO).ok Qc 201:=by
 refine Ls (S:=λ_=>none) A8 (Aj func201:Fn Qc 201 23 aLw [.t 6]) aPH (λds m fr d u h j=>?_);obtain⟨nl,t,xs,y,ys,l,rfl,e,q,f,rfl,rfl⟩:=aPI h;unfold SO at f;split at f
 ·rename_i s n;split at f
  ·rename_i z;obtain⟨o,v,a⟩:=z;simp only[Qt,QU]at f;obtain⟨rfl,rfl⟩:=f;refine⟨U,?_⟩;clear h;have g:((s.toNat:Nat):Int)=s:=QW O;have w1:IntKind.i64.wrap (s-1)=s-1:=IntWalk.i64_in _ ⟨O,O⟩;have i:IntKind.i64.wrap (8*(s-1))=8*(s.toNat:Int)-8:=by rw[IntWalk.i64_in _ ⟨O,O⟩];omega
   unfold aLw;simp only[↓C2,Hc,simprocAttr,w1,i];refine aHa (sz:=s.toNat) O a j e s.toNat _ nl t xs _ O O (λh=>?_) Xa Gs.start rfl rfl rfl (λx nl' b w _ e3=>?_)
   ·grind [BZ]
   ·obtain⟨rfl,rfl,p⟩:=e3 O;simp only[↓C2,Hc,Hl,simprocAttr,w];exact p.fin j e
  ·cases f
 ·cases f
def aJA:List D->Option (List D×List Nat)
 |[.str s]=>if s.length<=65535 then some (AH (iB 2 s.length++s),[17])else none
 |_=>none
set_option maxHeartbeats 1000000 in
def aSx(e:grownQ.ok Qc 206):(cQ 5 aGw aJA).ok Qc 142:=by
 have w:G8.ok Qc (Ar [(206,grownQ),(201,gQ 5 SO)]):=Aa e (Aa (aJ9) Ad);have b:Ar [(206,grownQ),(201,gQ 5 SO)] 206=some grownQ:=rfl;have a:Ar [(206,grownQ),(201,gQ 5 SO)] 201=some (gQ 5 SO):=rfl;generalize Ar [(206,grownQ),(201,gQ 5 SO)]=S at w b a;refine Ls (S:=S) w (Aj func142:Fn Qc 142 22 aMc [.t 4,.t 5]) (λds m m' fr _=>rfl) (λds m fr d u h j=>?_);obtain⟨nl,t,xs,v,ys,l,rfl,x,q,hF,rfl,rfl⟩:=aP6 h;unfold aJA at hF;split at hF
 ·rename_i s;split at hF
  ·rename_i z;simp only[Qt,QU]at hF;obtain⟨rfl,rfl⟩:=hF;refine⟨U,?_⟩;clear h;have g1:((65535:Int)<(s.length:Int))=False:=eq_false O;have w1:IntKind.i64.wrap (2+(s.length:Int))=2+(s.length:Int):=IntWalk.i64_in _ ⟨O,O⟩;have y:IntKind.u64.wrap (s.length:Int)=(s.length:Int):=SU O O;have c:SO [.int .i64 2,.int .u64 (s.length:Int)]=some (AH (iB 2 s.length),[26]):=by
    show(if(1:Int)<=2∧(2:Int)<=8∧0<=(s.length:Int)then some (AH (iB (2:Int).toNat (s.length:Int)),[13*(2:Int).toNat])else none)=_;rw[if_pos ⟨O,O,O⟩];rfl
   have f:∀m fr,grownQ.ex [.slice nl t xs,.int .i64 (2+(s.length:Int))] m fr=some (.slice false (0::fr) xs,[(0::fr,0,[.tok 6])]):=λm fr=>aB6 O x O
   unfold aMc;simp only[↓C2,Hc,Hl,simprocAttr,AE b,AE a,f,g1,w1,y];have p:Gd 5 fr m true [] (m.put ([0]++9::fr) 0 [.tok 6]) 10 ([0]++9::fr):=
    ⟨⟨[0],9,rfl,O⟩,by rw[BM,if_pos ⟨rfl,rfl⟩],λi o hi=>UR i o hi⟩
   refine aKR (.inr ⟨p.tok,U⟩) U q c ?_;have ga:Gd 5 fr m true [] (Hf.app (m.put (0::9::fr) 0 [.tok 6]) (Bh 5 ([26]++13::fr) (.slice false (0::9::fr) xs))) 14 ([26]++13::fr):=
    Gs.app (l:=[26]) (k:=13) p.gs O O
   simp only[↓C2,Hc,simprocAttr,false_and,Cp];refine Au.intro ⟨by simp only[Qh,Cp,beB_len];omega,?_,.inr ⟨ga.tok,U⟩⟩ ?_
   ·cases s<;>rfl
   simp only[↓C2,Hc,simprocAttr];refine⟨by rw[Fj,Q0];rfl,?_⟩;exact(Gs.app (c':=18) (l:=[]) (k:=17) ga.gs O O).finc j
  ·cases hF
 ·cases hF
set_option maxRecDepth 20000 in
def aFV(w:World)(y:Option Addr)(n c k:Nat)(cs:List Value)(hl:cs.length=n)(q:∀v∈cs,v.oneCell'=true)(s:n+k<=140737488355328)
  (l:0<n->∃ad,y=some ad∧∀(j:Nat) v,cs[j]?=some v->w.cell? (ad.add j)=some v):
  Calls Qc 206 #[.slice y n c,.int .i64 (k:Int)] w λe w'=>e= .returned (.slice (some ⟨w.heap.size,0,none⟩) n (n+k))∧w'=(w.alloc (.cells (madeCells #[.int .u8 0] (n+k)) 5)).setRow w.heap.size (cs++(madeCells #[.int .u8 0] (n+k)).toList.drop n).toArray:=by
 have f:IntKind.i64.wrap ((n:Int)+(k:Int))=(n:Int)+(k:Int):=IntWalk.i64_in _ ⟨O,O⟩;have p:∀u:World,(Instr.makeSlice 108 (.int .i64 (n:Int)) (.int .i64 ((n:Int)+(k:Int)))).run Qc u= .ok (.slice (some ⟨u.heap.size,0,none⟩) n (n+k)) (u.alloc (.cells (madeCells #[.int .u8 0] (n+k)) 5)):=λu=>by
  have t:((n:Int)+(k:Int)).toNat=n+k:=O
  have:=run_make (P:=Qc) u 108 5 Tryz.t5 (.int .u8 0) underlying108 Z Z .i64 .i64 (n:Int) ((n:Int)+(k:Int)) O O (by show((1:Nat):Int)*_<=_;omega) O;simpa[show Tryz.t5.size=1 from rfl,Value.cells,t]using this
 have o:(Builtin.copy_ #[108,108] 3 #[.slice (some ⟨w.heap.size,0,none⟩) n (n+k),.slice y n c]).run Qc (w.alloc (.cells (madeCells #[.int .u8 0] (n+k)) 5))= .ok (goInt n) ((w.alloc (.cells (madeCells #[.int .u8 0] (n+k)) 5)).setRow w.heap.size (cs++(madeCells #[.int .u8 0] (n+k)).toList.drop n).toArray):=by
  have a:(w.alloc (.cells (madeCells #[.int .u8 0] (n+k)) 5)).heap[w.heap.size]?=some (.cells (madeCells #[.int .u8 0] (n+k)) 5 (0,0)):=heap_alloc_new w _;rcases Nat.eq_zero_or_pos n with h0|h0
  ·have h:cs=[]:=Zc O;subst h;have:=run_copy_none (P:=Qc) (w.alloc (.cells (madeCells #[.int .u8 0] (n+k)) 5)) 108 108 3 5 (some ⟨w.heap.size,0,none⟩) y n (n+k) n c underlying108 Z (by rw[h0];rfl);rw[this,h0];simp only[QC,Q2,Array.toArray_toList];rw[setRow_self _ _ _ 5 (0,0) (by rw[h0]at a;exact a)];rfl
  ·obtain⟨ad,rfl,g⟩:=l h0;have:=run_copy_row (P:=Qc) (w.alloc (.cells (madeCells #[.int .u8 0] (n+k)) 5)) 108 108 3 5 w.heap.size 0 n (n+k) ad n c (madeCells #[.int .u8 0] (n+k)) 5 cs underlying108 Z a (by rw[hl];simp) (λj v m=>by rw[World.cell?_alloc_old _ _ _ (Nat.ne_of_lt (World.block_lt_of_cell? _ _ (g j v m)))];exact g j v m) (by simp[madeCells];omega) q;rw[this,hl];simp[]
 go_enter func206,ntmps206
 go_wp2
 go_ret
 exact Y_
def VM(w:World)(a b:Array Value)(e:TypeId):(w.alloc (.cells a e)).setRow w.heap.size b=w.alloc (.cells b e):=by
 have h:∀(F:Obj->Obj),(w.heap.push (.cells a e)).modify w.heap.size F=w.heap.push (F (.cells a e)):=by
  grind
 unfold World.setRow World.alloc;simp only[h]
def aSj:grownQ.ok Qc 206:=by
 refine⟨⟨Tryz.f206,func206,rfl,Z⟩,λds m m' fr _=>rfl,?_⟩;intro B w0 w m g fr ds vs r u hi ia hl b p;simp only[grownQ]at p;split at p
 ·rename_i nl t xs k;split at p
  ·rename_i hc;obtain⟨ya,f,y⟩:=hc;simp only[Qt,QU]at p;obtain⟨rfl,rfl⟩:=p
   match vs,hl with
   |[v0,v1],_=>
    have sa:=b 0 _ v0 rfl rfl;have oa:=(b 1 _ v1 rfl rfl).int_inv;subst oa;have ka:∀d∈xs,d.cells.length=1∧d.calm=true:=by
     intro d s;have:=Q9.1 f d s;unfold GR at this;split at this
     ·exact Y_
     ·cases this
    obtain⟨sp,c,cs,e0,va,ra,l⟩:∃(sp:Option Addr)(c:Nat)(cs:List Value),v0= .slice sp xs.length c∧cs.length=xs.length∧AX w g (flat xs) cs∧
      (0<xs.length->∃ad,sp=some ad∧∀(j:Nat) v,cs[j]?=some v->w.cell? (ad.add j)=some v):=by
     cases nl with
     |true=>
      rcases sa.slice_inv with ⟨_,rfl,e⟩|⟨h,_⟩
      ·exact⟨none,0,[],e,rfl,AX.nil w g,λh=>Xd⟩
      ·cases h
     |false=>
      obtain⟨ad,n,c,sz,ws,ev,hn,za,la,xa,o,va,_⟩:=sa.slice_list;subst hn;refine⟨some ad,c,ws,ev,?_,o,λ_=>⟨ad,rfl,va⟩⟩;rw[xa];cases xs with
      |nil=>simp
      |cons x r=>
       have q:=la x (Qo ..);rw[(ka x (Qo ..)).1]at q;rw[←q,Nat.mul_one]
    subst e0;have ha:((k.toNat:Nat):Int)=k:=QW ya;have hw:=aFV w sp xs.length c k.toNat cs va ra.2.1 O l;rw[ha]at hw;refine hw.mono ?_;rintro e w' ⟨rfl,rfl⟩;rw[VM];have la:(cs++(madeCells #[Value.int .u8 0] (xs.length+k.toNat)).toList.drop xs.length).toArray.size=(xs.length+k.toNat)*1:=by simp[madeCells,va]
    have bb:∃ti z,Tryz.prog.info? 5=some ti∧ti.size=1∧ti.zero=some z∧z.cells.size=1:=⟨Tryz.t5,.int .u8 0,Z,Z,Z,Z⟩;have ta:=ia (0::fr) (ZG 0 fr);have fa:=hi.newTok ta (e:=5) (n:=xs.length) (c:=xs.length+k.toNat) (sz:=1) (cur:=(cs++(madeCells #[Value.int .u8 0] (xs.length+k.toNat)).toList.drop xs.length).toArray) V bb O Xp la;have ma:=Hr.newTok (w:=w) (t:=0::fr) (n:=xs.length) (c:=xs.length+k.toNat) (sz:=1) (Obj.cells (cs++(madeCells #[Value.int .u8 0] (xs.length+k.toNat)).toList.drop xs.length).toArray 5) hi.gz ta.2.2 rfl;refine⟨_,_,rfl,fa,ma,?_,λi a hn=>CU a (λh=>hn ((ZG 0 fr).trans h)) _ _ _ _ _⟩;refine aG (sz:=1) (cur:=(cs++(madeCells #[Value.int .u8 0] (xs.length+k.toNat)).toList.drop xs.length).toArray) (T:=5) (fz:=(0,0)) (heap_alloc_new w _) rfl O (λd s=>(ka d s).1) (ra.ext ma) (λj v hv=>?_) Xl (λ_=>Xl) (λd s=>(ka d s).2);rw[List.getElem?_toArray,QP (Qy.1 hv).1];exact hv
  ·cases p
 ·cases p
def aJ2{d:D}{n:Bool}{t:Id}{xs ys:List D}(h:d= .slice n t xs)(e:xs=ys):d= .slice n t ys:=e▸h
def aHl{S:G8}(a:S 142=some (cQ 5 aGw aJA)){l:List Mt}{nl:Bool}{Q:Ex->St->Prop}(hl:Sj l)
  (e:∀v n t,v.s 3= .slice n t (AH (Fo l))->Q (.exit 0) v):
  ∀(f j:Nat)(n:Bool)(t:Id)(v:St) g,l.length=j+f->v.s 3= .slice n t (AH (Fo (l.take j)))->v.s 8= .slice nl [] (AB l)->v.s 9= .int .i64 (l.length:Int)->v.s 10= .int .i64 (j:Int)->Be S [] PA Q v g:=by
 intro f;induction f with
 |zero=>
  intro j n t v g hf i h8 h9 w;refine Af PA.eq_1 ?_;have:¬((j:Int)<l.length):=O
  simp only[↓C2,Hc,Hl,reduceIte,QF,h9,w,this];rw[QJ O]at i;exact e _ n t i
 |succ f ih=>
  intro j n t v g hf i h8 h9 w;refine Af PA.eq_1 ?_;have q:j<l.length:=O
  have u:((j:Int)<l.length):=O
  have oa:=nJ (j:=j);have z:=hl.1;have o:=nR hl j O;have c:=hl.2 _ (cC q);have hw:=wJ (j:=j) O;have x:(AB l)[j]?=some (.agg [.str (Cd l j).1,.int .i64 (Cd l j).2.1,.bool (Cd l j).2.2]):=Pb q;have y:=SZ q;generalize Cd l j=m at x c y;obtain⟨p,k,b⟩:=m;simp only at c x;have hF:aJA [.str p]=some (AH (aGy p),[17]):=if_pos O;obtain⟨ma,ia,r⟩:=v;simp only at i h8 h9 w;cases b with
  |true=>
   simp only[↓C2,Ho,simprocAttr,h8,h9,w,i,u,oa,Qm,x,AE a,Ah,Av,Aw,Zm,Ze,Zf,QE];refine aKS (TX _) (by rw[Cp];omega) hF ?_;simp only[↓C2,Ho,simprocAttr,aGw,i,and_false,Up,Ah,and_false];refine Au.intro ⟨YK,rfl,.inr ⟨by simp[BM],U⟩⟩ ?_;simp only[↓C2,G9,simprocAttr,w,hw];refine ih (j+1) false _ _ _ O (aJ2 rfl ?_) h8 h9 rfl;rw[y];simp only[mtB,Fj,Q0];simp only[AH,QV,Q6];rw[Iz O];rfl
  |false=>
   simp only[↓C2,Ho,simprocAttr,h8,h9,w,i,u,oa,Qm,x,AE a,Ah,Av,Aw,Zm,Ze,Zf,QE];refine aKS (TX _) (by rw[Cp];omega) hF ?_;simp only[↓C2,Ho,simprocAttr,aGw,i,and_false,Up,Ah,and_false];refine Au.intro ⟨YK,rfl,.inr ⟨by simp[BM],U⟩⟩ ?_;simp only[↓C2,G9,simprocAttr,w,hw];refine ih (j+1) false _ _ _ O (aJ2 rfl ?_) h8 h9 rfl;rw[y];simp only[mtB,Fj,Q0];simp only[AH,QV,Q6];rw[Iz O];rfl
def P7(p:Bool×List Mt):List D:=[.agg [.slice p.1 [] (AB p.2)]]
def uQ(x y:Bool×List Mt)(e:P7 x=P7 y):x=y:=by
 grind [P7,cA]
def zB:List D->Option D:=FX P7 (λp=>Sj p.2) (λp=> .str (Fo p.2))
def Wd{n:Bool}{l:List Mt}(h:Sj l):zB [.agg [.slice n [] (AB l)]]=some (.str (Fo l)):=B3 (mk:=P7) (a:=(n,l)) uQ h
def aAY:Kq zB 86:=by
 obtain⟨S,w,hl⟩:=Bv (Aa (aSx aSj) Ad);have a:=hl 142 _ rfl;clear hl;refine C0 w (Aj func86:Fn Qc 86 35 aMV [.t 2]) (λ_=>by simp[P7]) (λp c=>?_);obtain⟨n,l⟩:=p;have hl:Sj l:=c;unfold aMV P7;simp only[↓C2,Hc,H_,simprocAttr,AY,Ah,Qf,QK,Qb,Qg,Qj,List.getElem?_cons_zero,and_self];refine aHl a hl (λv j b e=>?_) l.length 0 true [] _ _ O rfl rfl rfl rfl;simp only[↓C2,Hc,H_,simprocAttr,e,aH7,Da,and_self]
def P4(o:Oc)(nl:Bool)(l:List Mt):Oc:={o with vw:={o.vw with nlm:=nl,ms:=l}}
def MM(o:Oc)(nl:Bool)(l:List Mt):Oc:={(P4 o nl l).op 1 (An 4 [] 0) (Fo l)with rep:=Is .done}
def zE(o:Oc)(nl:Bool)(l:List Mt)(p:Bs):Oc:={((((P4 o nl l).op 1 (An 4 [] 0) (Fo l)).op 3 ([109,47]++p++[47]) []).op 3 ([100,47]++p++[47]) [])with rep:=Is .done}
def S58:=Ar [(129,Ac F45),(144,wQ ON),(211,Ac Fs),(86,Ac zB),(210,wQ Oa),(146,wQ zG)]
def W58:Wb->Oc->List D->Option WY:=RW S58 aPS [] 48
def aWZ:(wQ W58).ok Qc 148:=Dn (Aj func148) (Aa aWA (Aa Sx (Aa IP (Aa aAY (Aa MS (Aa kA Ad))))))
def aEe(w:Wb)(o:Oc)(b:Oc)(ol:Option (List Nat))(g:o.nl=true->o.ops=[])(r:Bool)(s:List Mt)(e:Int)(u:F45 [.agg [.slice w.v.nlm [] (AB w.v.ms)],.agg [.str w.a.pa,.int .i64 w.a.n,.bool w.a.fl]]=some (.tup [.agg [.slice r [] (AB s)],.int .i64 e]))(z:e≠0)(y:ON w o [.int .i64 e]=some (.tup [],b,ol)):W58 w o []=some (.tup [],b,ol.map (·++[33])):=by
 refine Ba g ⟨Qa rfl,λh=>CA y h,λl h=>Cz y h,λi m fr t x j p n0=>?_⟩;have k:=Wt.start x j;unfold aPS;have c:=AM x.1;simp only[Hb,↓C2,G7,simprocAttr,c,Ae S58 129,u];refine Wh ?_;simp only[↓C2,G9,G7,simprocAttr,eq_false z,AD S58 144];refine Aq k.put.put y (λM c1 q=>?_);simp only[↓C2,Hc,simprocAttr];exact c1.endc x.2.2
def aEd(w:Wb)(o:Oc)(r:Bool)(g:List Mt)(da:F45 [.agg [.slice w.v.nlm [] (AB w.v.ms)],.agg [.str w.a.pa,.int .i64 w.a.n,.bool w.a.fl]]=some (.tup [.agg [.slice r [] (AB g)],.int .i64 0]))(f:iD o)(z:Sj g):W58 w o []=some (.tup [],MM o r g,some ([11,42])):=by
 refine Ba (λ_=>f.ops) ⟨Qa rfl,λh=>Xc,λl h=>XC,λi m fr t x j ja n0=>?_⟩;have e:=Wt.start x j;unfold aPS;have xx:=AM x.1;have s:=CY 4 0 [] U;have y:=s;have b:=Wd (n:=r) z;have na:=DQ w (P4 o r g) 1 (An 4 [] 0) (Fo g) (λ_=>f.ops) (by show o.ops.length<=_;rw[f.ops];simp);have k:=I7 w ((P4 o r g).op 1 (An 4 [] 0) (Fo g)) (λh=>Xc);simp only[Hb,↓C2,G7,simprocAttr,xx,Ae S58 129,da];refine Wh ?_;simp only[Hb,↓C2,G7,simprocAttr,xx,n0,Ae S58 211,y,Ae S58 86,b,AD S58 210];refine Cv (e.put.put.cellp (p:=28) (ys:=[.slice r [] (AB g)]) (o':=P4 o r g) (Qa rfl) rfl rfl rfl) na (λM u c c1 q=>?_);simp only[↓C2,Hc,H_,simprocAttr];refine Wh ?_;simp only[↓C2,Hc,Hl,simprocAttr,AD S58 146];refine Aq c1 k (λM2 d1 d2=>?_);simp only[↓C2,Hc,simprocAttr];exact d1.endl (l:=[11,42]) U
def S59:=Ar [(212,Ac yL),(144,wQ ON),(211,Ac Fs),(86,Ac zB),(210,wQ Oa),(213,Ac yK),(146,wQ zG)]
def W59:Wb->Oc->List D->Option WY:=RW S59 aPR [] 53
def aWY:(wQ W59).ok Qc 149:=Dn (Aj func149) (Aa aUo (Aa Sx (Aa IP (Aa aAY (Aa MS (Aa aKF (Aa kA Ad)))))))
def aEc(w:Wb)(o:Oc)(b:Oc)(ol:Option (List Nat))(g:o.nl=true->o.ops=[])(r:Bool)(s:List Mt)(e:Int)(c:yL [.agg [.slice w.v.nlm [] (AB w.v.ms)],.str w.a.pa]=some (.tup [.agg [.slice r [] (AB s)],.int .i64 e]))(z:e≠0)(y:ON w o [.int .i64 e]=some (.tup [],b,ol)):W59 w o []=some (.tup [],b,ol.map (·++[21])):=by
 refine Ba g ⟨Qa rfl,λh=>CA y h,λl h=>Cz y h,λi m fr t x j p n0=>?_⟩;have q:=Wt.start x j;unfold aPR;have k:=AM x.1;simp only[Hb,↓C2,G7,simprocAttr,k,Ae S59 212,c];refine Wh ?_;simp only[↓C2,G9,G7,simprocAttr,eq_false z,AD S59 144];refine Aq q.put.put y (λM c1 n=>?_);simp only[↓C2,Hc,simprocAttr];exact c1.endc x.2.2
def aQf(w:Wb)(o:Oc)(r:Bool)(l2:List Mt)(c:yL [.agg [.slice w.v.nlm [] (AB w.v.ms)],.str w.a.pa]=some (.tup [.agg [.slice r [] (AB l2)],.int .i64 0]))(q:iD o)(z:Sj l2)(k:w.a.pa.length<=1000000):W59 w o []=some (.tup [],zE o r l2 w.a.pa,some ([11,54])):=by
 refine Ba (λ_=>q.ops) ⟨Qa rfl,λh=>Xc,λl h=>XC,λi m fr t x j ja n0=>?_⟩;have hW:=Wt.start x j;unfold aPR;have xx:=AM x.1;have s:=CY 4 0 [] U;have y:=s;have b:=Wd (n:=r) z;have na:=DQ w (P4 o r l2) 1 (An 4 [] 0) (Fo l2) (λ_=>q.ops) YM;have ga:=V0 w.a.pa k;generalize ra:([109,47]++w.a.pa++[47]:Bs)=q1 at ga;generalize g:([100,47]++w.a.pa++[47]:Bs)=q2 at ga;have e:=DQ w ((P4 o r l2).op 1 (An 4 [] 0) (Fo l2)) 3 q1 [] (λh=>Xc) (by simp[Oc.op,P4,q.ops]);have f:=DQ w (((P4 o r l2).op 1 (An 4 [] 0) (Fo l2)).op 3 q1 []) 3 q2 [] (λh=>Xc) (by simp[Oc.op,P4,q.ops]);have la:=I7 w ((((P4 o r l2).op 1 (An 4 [] 0) (Fo l2)).op 3 q1 []).op 3 q2 []) (λh=>Xc);have y0:((0:Nat):Int)=0:=rfl;have y1:((1:Nat):Int)=1:=rfl;have y2:((2:Nat):Int)=2:=rfl;have w1:IntKind.i64.wrap 1=1:=rfl;have w2:IntKind.i64.wrap 2=2:=rfl;have z1:(0:Int)+1=1:=rfl;have z2:(1:Int)+1=2:=rfl;unfold zE;rw[ra,g];simp only[Hb,↓C2,G7,simprocAttr,xx,Ae S59 212,c];refine Wh ?_;simp only[Hb,↓C2,G7,simprocAttr,xx,n0,Ae S59 211,y,Ae S59 86,b,AD S59 210];refine Cv (hW.put.put.cellp (p:=28) (ys:=[.slice r [] (AB l2)]) (o':=P4 o r l2) (Qa rfl) rfl rfl rfl) na (λM u hu c1 c2=>?_);have xx:=AM c1.at_.1;simp only[↓C2,Hc,H_,simprocAttr];refine Wh ?_;simp only[↓C2,G9,G7,simprocAttr,xx.2.2.2.2.2.2.2.1,Ae S59 213,ga,Qb,Qg];refine Af Vo.eq_1 ?_;simp only[↓C2,G9,G7,simprocAttr,Q1,Qb,Qg,AD S59 210];refine Aq c1 e (λM2 d1 d2=>?_);simp only[↓C2,Hc,simprocAttr,w1,z1];refine Af Vo.eq_1 ?_;simp only[↓C2,G9,G7,simprocAttr,ZC,Qb,Qg,AD S59 210];refine Aq d1 f (λM3 e1 e2=>?_);simp only[↓C2,Hc,simprocAttr,w2,z2];refine Af Vo.eq_1 ?_;simp only[↓C2,G9,G7,simprocAttr,AD S59 146];refine Aq e1 la (λM4 f1 f2=>?_);simp only[↓C2,Hc,simprocAttr];exact f1.endl (l:=[11,54]) U
def VD:=y1 f137 5 [] []
def VC:=y1 f137 13 [] []
def aMa:=y0 f137 [] [(5,VD),(13,VC)]
def aMS:=y0 f82 [] []
def aAy(s:Bs):Bs:=iB 2 (s.length:Int)++s
def B9(l:List Bs):Bs:=l.flatMap aAy
def W8(l:List Bs)(s:Bs):B9 (l++[s])=B9 l++iB 2 (s.length:Int)++s:=by simp[B9,aAy]
def PZ:∀{l:List Bs},(∀s∈l,s.length<=60000)->(B9 l).length<=60002*l.length
 |[],_=>by simp[B9]
 |x::r,h=>by
  have ih:=PZ (l:=r) (λs g=>h s (Qu _ g));have q:=h x Qo;have e:B9 (x::r)=aAy x++B9 r:=by simp[B9]
  rw[e];simp only[Qh,aAy,beB_len,Qb];omega
def aVF:=Ar [(201,gQ 5 SO)]
def aIV:=RF aVF aMa [.t 2,.t 3] 46
def aT9:Kq aIV 137:=Ap (Aj func137) (Aa aJ9 Ad)
def aIU(nl:Bool)(l:List Bs)(hl:l.length<=1024)(hs:∀s∈l,s.length<=60000):aIV [.slice nl [] (strsD l)]=some (.tup [.slice false [] (AH (B9 l)),.int .i64 0]):=by
 refine Al (Qa rfl) ?_;unfold aMa;have w:((1024:Int)<(l.length:Int))=False:=eq_false O;simp only[↓C2,Hc,Hl,G7,reduceIte,Qw,QF,reduceCtorEq,AT,w];refine BO (n:=l.length) (I:=λj v=>v.s 13= .slice nl [] (strsD l)∧v.s 14= .int .i64 l.length∧v.s 15= .int .i64 (j:Int)∧v.s 0= .slice nl [] (strsD l)∧∃a:Int,v.s 4= .int .i64 a∧0<=a∧a<=60002*(j:Int)) (λj hj ih v g hI=>?_) (λv g hI=>?_) 0 (Qf _) _ _ ⟨rfl,rfl,rfl,rfl,0,rfl,O,O⟩
 ·obtain⟨ma,ia,r⟩:=v;obtain⟨ja,wa,ga,h0,a,h4,e,f⟩:=hI;simp only at ja wa ga h0 h4;refine Af VD.eq_1 ?_;have da:((j:Int)<(l.length:Int))=True:=eq_true O;have oa:=nJ (j:=j);have hw:IntKind.i64.wrap ((j:Int)+1)=((j+1:Nat):Int):=by rw[Hy O O];omega
  have ka:=DB (l:=l) (j:=j) hj;have q:=hs l[j] (QL hj);generalize l[j]=x at ka q;have hb:((65535:Int)<(x.length:Int))=False:=eq_false O;have w1:IntKind.i64.wrap (2+(x.length:Int))=2+(x.length:Int):=Hy O O;have w2:IntKind.i64.wrap (a+(2+(x.length:Int)))=a+(2+(x.length:Int)):=Hy O O;simp only[↓C2,G9,G7,reduceIte,Qw,QF,ja,wa,ga,h4,da,oa,Qm,ka,hb,w1,w2,hw];exact ih _ _ ⟨ja,wa,rfl,h0,_,rfl,O,O⟩
 ·obtain⟨ma,ia,r⟩:=v;obtain⟨ja,wa,ga,h0,a,h4,e,f⟩:=hI;simp only at ja wa ga h0 h4;refine Af VD.eq_1 ?_;have p:¬(a<0):=by omega
  simp only[↓C2,G9,G7,reduceIte,Qw,QF,Int.reduceLE,wa,ga,h4,Zb,e];refine Au.intro (by have e2:((1:Nat):Int)+1=2:=rfl;rw[e2];omega) ?_;simp only[↓C2,Hc,G7,reduceIte,Qw,QF,reduceCtorEq,h0,AT,Q1,List.replicate_zero];refine BO (n:=l.length) (I:=λj v=>v.s 30= .slice nl [] (strsD l)∧v.s 31= .int .i64 l.length∧v.s 32= .int .i64 (j:Int)∧∃t,v.s 7= .slice false t (AH (B9 (l.take j)))∧Gd 5 [] (λ_ _=>none) true [] v.m v.c t) (λj hj ih v g hI=>?_) (λv g hI=>?_) 0 (Qf _) _ _ ⟨rfl,rfl,rfl,_,rfl,⟨[],_,rfl,Xa⟩,XV,λi o hi=>absurd ⟨i,U⟩ hi⟩
  ·obtain⟨ma,ia,r⟩:=v;obtain⟨u,d,b,t,h7,hG⟩:=hI;simp only at u d b h7 hG;refine Af VC.eq_1 ?_;have da:((j:Int)<(l.length:Int))=True:=eq_true O;have oa:=nJ (j:=j);have hw:IntKind.i64.wrap ((j:Int)+1)=((j+1:Nat):Int):=by rw[Hy O O];omega
   have ka:=DB (l:=l) (j:=j) hj;have q:=hs l[j] (QL hj);have z:l.take (j+1)=l.take j++[l[j]]:=QR hj;have ta:(B9 (l.take j)).length<=60002*j:=by
    have:=PZ (l:=l.take j) (λs hh=>hs s (Q3 hh));rw[Za]at this;omega
   generalize l[j]=x at ka q z;have wu:IntKind.u64.wrap (x.length:Int)=(x.length:Int):=by
    unfold IntKind.wrap;simp only;rw[show IntKind.u64.bits=64 from rfl,show IntKind.u64.signed=false from rfl,Zx,if_neg Bool.false_ne_true];omega
   have hF:SO [.int .i64 2,.int .u64 (x.length:Int)]=some (AH (iB 2 (x.length:Int)),[26]):=by
    show(if 1<=(2:Int)∧(2:Int)<=8∧0<=(x.length:Int)then some (AH (iB (2:Int).toNat (x.length:Int)),[13*(2:Int).toNat])else none)=_;rw[if_pos ⟨O,O,O⟩];rfl
   have y:=hG.gs;have va:BZ (λ_ _=>none) 5 true [] true=true:=rfl;simp only[↓C2,G9,G7,reduceIte,Qw,QF,u,d,b,h7,da,oa,Qm,ka,wu,AD aVF 201];refine aKR (y.grow (λ_ _ _=>rfl) va) (λh=>Xc) (by simp[AH];omega) hF ?_;have hA:=y.app (k:=r+1+3+4) (c':=r+1+3+5) (l:=[26]) (xs:=AH (B9 (l.take j))) O O;simp only[↓C2,Hc,H_,G7,reduceIte,Qw,QF];refine Au.intro ⟨by simp only[Qh,AH,Qr,beB_len];omega,by cases x<;>rfl,hA.gs.grow (λ_ _ _=>rfl) va⟩ ?_;have hB:=hA.gs.app (k:=r+1+3+6+2) (c':=r+1+3+6+3) (l:=[]) (xs:=AH (B9 (l.take j))++AH (iB 2 (x.length:Int))) O O;simp only[↓C2,Hc,G7,reduceIte,Qw,QF,b,hw];refine ih _ _ ⟨u,d,rfl,_,?_,hB.more Xa⟩;rw[z,W8];show D.slice _ _ _=_;simp[AH]
  ·obtain⟨ma,ia,r⟩:=v;obtain⟨u,d,b,t,h7,hG⟩:=hI;simp only at u d b h7 hG;refine Af VC.eq_1 ?_;rw[Zn]at h7;simp only[↓C2,G9,G7,reduceIte,Qw,QF,d,b,h7,Zb]
   all_goals exact Y6
def aIi:=Ar [(135,Ac zC),(136,Ac aJz),(137,Ac aIV)]
def yJ:=RF aIi aMS [.t 2,.t 3] 31
def aKE:Kq yJ 82:=Ap (Aj func82) (Aa aKm (Aa aKf (Aa aT9 Ad)))
def rT(n p:Bs)(b:Bool)(rs:List Rl)(k:Bs)(m:Int)(y:zC [.agg [.str n,.str p,.slice b [] (As rs)]]=some (.int .i64 0))(j:aJz [.slice b [] (As rs)]=some (.tup [.str k,.int .i64 m]))(c:p.length<=60000)(x:k.length<=60000):yJ [.agg [.str n,.str p,.slice b [] (As rs)]]=some (.tup [.str (B9 [p,k]),.int .i64 0]):=by
 refine Al (Qa rfl) ?_;unfold aMS;have a:aIV [.slice false [] [.str p,.str k]]=some (.tup [.slice false [] (AH (B9 [p,k])),.int .i64 0]):=aIU false [p,k] U (by
  intro s g;simp only[Qn,Zl,or_false]at g;rcases g with rfl|rfl
  ·exact c
  ·exact x)
 simp only[Hb,↓C2,G7,reduceIte,Qw,QF,Nat.reduceLT,Ae aIi 135,y,Ae aIi 136,j,Ae aIi 137,a,Da]
 all_goals exact Y6
def Sp(o:Oc)(nl:Bool)(l:List Tk):Oc:={o with vw:={o.vw with nlt:=nl,ks:=l}}
def mkO(o:Oc)(nl:Bool)(l:List Tk)(n b:Bs):Oc:={(Sp o nl l).op 1 (An 3 n 0) b with rep:=Is .done}
def zH:=Ar [(196,Ac F50),(19,Ac nC),(82,Ac yJ),(144,wQ ON),(211,Ac Fs),(210,wQ Oa),(146,wQ zG)]
def W60:Wb->Oc->List D->Option WY:=RW zH aHQ [] 72
def aWX:(wQ W60).ok Qc 150:=Dn (Aj func150) (Aa aWz (Aa aKl (Aa aKE (Aa Sx (Aa IP (Aa MS (Aa kA Ad)))))))
def aEb(w:Wb)(o:Oc)(b:Oc)(ol:Option (List Nat))(g:o.nl=true->o.ops=[])(r:Bool)(k2:List Tk)(e:Int)(ga:F50 [.agg [.slice w.v.nlt [] (AJ w.v.ks)],.agg [.str w.a.ot,.str w.a.tk,.slice w.a.nlr [] (As w.a.rs)]]=some (.tup [.agg [.slice r [] (AJ k2)],.int .i64 e]))(z:e≠0)(y:ON w o [.int .i64 e]=some (.tup [],b,ol)):W60 w o []=some (.tup [],b,ol.map (·++[47])):=by
 refine Ba g ⟨Qa rfl,λh=>CA y h,λl h=>Cz y h,λi m fr t x j p n0=>?_⟩;have q:=Wt.start x j;unfold aHQ;have c:=AM x.1;simp only[Hb,↓C2,G7,simprocAttr,c];refine Wh ?_;simp only[Hb,↓C2,G7,simprocAttr,c,n0,Ae zH 196,ga];refine Wh ?_;simp only[↓C2,G9,G7,simprocAttr,eq_false z,AD zH 144];refine Aq q.put.put.put.put y (λM c1 n=>?_);simp only[↓C2,Hc,simprocAttr];exact c1.endc x.2.2
def aEa(w:Wb)(o:Oc)(b:Oc)(ol:Option (List Nat))(g:o.nl=true->o.ops=[])(r:Bool)(k2:List Tk)(e:F50 [.agg [.slice w.v.nlt [] (AJ w.v.ks)],.agg [.str w.a.ot,.str w.a.tk,.slice w.a.nlr [] (As w.a.rs)]]=some (.tup [.agg [.slice r [] (AJ k2)],.int .i64 0]))(nb:Bool)(ns:List D)(f:nC [.agg [.slice w.v.nlt [] (AJ w.v.ks)]]=some (.slice nb [] ns))(n:(24:Int)<=(ns.length:Int))(y:ON w o [.int .i64 24]=some (.tup [],b,ol)):W60 w o []=some (.tup [],b,ol.map (·++[48])):=by
 refine Ba g ⟨Qa rfl,λh=>CA y h,λl h=>Cz y h,λi m fr t x j p n0=>?_⟩;have k:=Wt.start x j;unfold aHQ;have c:=AM x.1;simp only[Hb,↓C2,G7,simprocAttr,c];refine Wh ?_;simp only[Hb,↓C2,G7,simprocAttr,c,n0,Ae zH 196,e];refine Wh ?_;simp only[Hb,↓C2,G7,simprocAttr,c,n0,Ae zH 19,f,eq_true n,AD zH 144];refine Aq k.put.put.put.put y (λM c1 q=>?_);simp only[↓C2,Hc,simprocAttr];exact c1.endc x.2.2
def aQe(w:Wb)(o:Oc)(r:Bool)(k2:List Tk)(e:F50 [.agg [.slice w.v.nlt [] (AJ w.v.ks)],.agg [.str w.a.ot,.str w.a.tk,.slice w.a.nlr [] (As w.a.rs)]]=some (.tup [.agg [.slice r [] (AJ k2)],.int .i64 0]))(nb:Bool)(ns:List D)(f:nC [.agg [.slice w.v.nlt [] (AJ w.v.ks)]]=some (.slice nb [] ns))(q:iD o)(n:¬(24:Int)<=(ns.length:Int))(b:Bs)(e3:Int)(g:yJ [.agg [.str w.a.ot,.str w.a.tk,.slice w.a.nlr [] (As w.a.rs)]]=some (.tup [.str b,.int .i64 e3]))(c:w.a.ot.length<=1000000):W60 w o []=some (.tup [],mkO o r k2 w.a.ot b,some ([11,67])):=by
 refine Ba (λ_=>q.ops) ⟨Qa rfl,λh=>Xc,λl h=>XC,λi m fr t x j s n0=>?_⟩;have hW:=Wt.start x j;unfold aHQ;have y:=CY 3 0 w.a.ot c;have na:=DQ w (Sp o r k2) 1 (An 3 w.a.ot 0) b (λ_=>q.ops) YM;have k:=I7 w ((Sp o r k2).op 1 (An 3 w.a.ot 0) b) (λh=>Xc);have xx:=AM x.1;simp only[Hb,↓C2,G7,simprocAttr,xx];refine Wh ?_;simp only[Hb,↓C2,G7,simprocAttr,xx,n0,Ae zH 196,e];refine Wh ?_;simp only[Hb,↓C2,G7,simprocAttr,xx,n0,Ae zH 19,f,eq_false n,Ae zH 82,g,Ae zH 211,y,AD zH 210];refine Aq (hW.put.put.put.put.cellp (p:=29) (ys:=[.slice r [] (AJ k2)]) (o':=Sp o r k2) (Qa rfl) rfl rfl rfl) na (λM c1 c2=>?_);simp only[↓C2,Hc,Hl,simprocAttr,AD zH 146];refine Aq c1 k (λz u d2=>?_);simp only[↓C2,Hc,simprocAttr];exact u.endl (l:=[11,67]) U
def aLe:=y0 f238 [] []
def aLt:=y0 Tryz.f166 [] []
def aL7:=y0 f271 [] []
def lM:=y1 f152 6 [] []
def aHO:=y0 f152 [] [(6,lM)]
def kG:∀(l:Bs)(c:UInt8),Lib.indexByte l c=-1∨(0<=Lib.indexByte l c∧Lib.indexByte l c<(l.length:Int))
 |[],_=> .inl rfl
 |b::l,c=>by
  have ih:=kG l c;simp only[Lib.indexByte,beq_iff_eq,Qb];split
  ·omega
  ·omega
def BW(s:Bs)(c:UInt8):Bs×Bs×Bool:=if Lib.indexByte s c<0 then(s,[],false)else(s.take (Lib.indexByte s c).toNat,s.drop ((Lib.indexByte s c).toNat+1),true)
def Ck(s z:Bs):Bs×Bool:=if Bj s z=false then([],false)else if(BW (Dc s z) 47).2.2=true then((BW (Dc s z) 47).1++[47],true)else(Dc s z,true)
def aV6{s:Bs}{c:UInt8}:IX [.str s,.str [c]]=some (.int .i64 (Lib.indexByte s c)):=rfl
def aQk:=Ar [(237,Ac IX)]
def aQD:=RF aQk aLe [.t 4,.t 5,.t 6] 23
def aTE:Kq aQD 238:=Ap (Aj func238) (Aa aTI Ad)
def aIr(s:Bs)(c:UInt8)(hl:s.length<=1000000):aQD [.str s,.str [c]]=some (.tup [.str (BW s c).1,.str (BW s c).2.1,.bool (BW s c).2.2]):=by
 refine Al (Qa rfl) ?_;unfold aLe;have a:=aV6 (s:=s) (c:=c);have o:=kG s c;unfold BW;generalize Lib.indexByte s c=q at *;by_cases v:q<0
 ·have b:((0:Int)<=q)=False:=eq_false O;rw[if_pos v];simp only[↓C2,G9,G7,simprocAttr,Ae aQk 237,a,b]
  all_goals exact Y6
 ·have b:(0:Int)<=q:=by omega
  have w:(q<=(s.length:Int))=True:=eq_true O;have m:(q+1<=(s.length:Int))=True:=eq_true O;have j:(0:Int)<=q+1:=O
  have t:(q+1).toNat=q.toNat+1:=O
  have u:q.toNat<=s.length:=O
  have x:q.toNat+1<=s.length:=O
  have f:IntKind.i64.wrap (q+1)=q+1:=Hy O O;have y1:((1:Nat):Int)=1:=rfl;have e:ZA (s.length-(q.toNat+1)) (s.drop (q.toNat+1))=s.drop (q.toNat+1):=QJ X7;rw[if_neg v];simp only[↓C2,G9,G7,simprocAttr,Ae aQk 237,a,b,w,m,j,t,f,y1,e,Q2,Qb,Qg];refine Au.intro (λp k=>by cases k) ?_;simp only[↓C2,G9,G7,simprocAttr]
  all_goals exact Y6
def aVw:=Ar [(238,Ac aQD)]
def aIB:=RF aVw aLt [.t 4,.t 5,.t 6] 13
def aKs:Kq aIB 166:=Ap (Aj func166) (Aa aTE Ad)
def rM(s:Bs)(c:UInt8)(hl:s.length<=1000000):aIB [.str s,.str [c]]=some (.tup [.str (BW s c).1,.str (BW s c).2.1,.bool (BW s c).2.2]):=by
 refine Al (Qa rfl) ?_;unfold aLt;have a:=aIr s c hl;simp only[↓C2,G9,G7,simprocAttr,Ae aVw 238,a]
 all_goals exact Y6
def yF:=Ar [(109,Ac yT),(166,Ac aIB)]
def aV1:=RF yF aL7 [.t 4,.t 5] 29
def aT7:Kq aV1 271:=Ap (Aj func271) (Aa aJ8 (Aa aKs Ad))
def aIS(s z:Bs)(hl:s.length<=1000000)(j:(Dc s z).length<=s.length):aV1 [.str s,.str z]=some (.tup [.str (Ck s z).1,.bool (Ck s z).2]):=by
 refine Al (Qa rfl) ?_;unfold aL7;have c:yT [.str s,.str z]=some (.tup [.str (Dc s z),.bool (Bj s z)]):=rfl;have d:=rM (Dc s z) 47 O;have i:(BW (Dc s z) 47).1.length<=(Dc s z).length:=by
  grind [BW]
 unfold Ck;generalize BW (Dc s z) 47=q at *;generalize Dc s z=r at *;obtain⟨k,o,m⟩:=q;simp only at i d ⊢;cases hb:Bj s z with
 |false=>
  rw[hb]at c;simp only[↓C2,G9,G7,simprocAttr,Ae yF 109,c]
  all_goals exact Y6
 |true=>
  rw[hb]at c;have x:=I6 (a:=k) (b:=[47]) YG;cases m with
  |false=>
   simp only[↓C2,G9,G7,simprocAttr,Ae yF 109,c,Ae yF 166,d]
   all_goals exact Y6
  |true=>
   have ta:(k.length+1<=9223372036854775807)=True:=eq_true O;simp only[↓C2,G9,G7,simprocAttr,Ae yF 109,c,Ae yF 166,d,x]
   all_goals exact Y6
def Vt:=y1 f312 2 [] []
def aLv:=y0 f312 [] [(2,Vt)]
def aL9:=y0 f269 [] []
def vO{l:List Bs}{n:Bs}{j:Nat}(b:j<l.length)(q:n=l[j])(p:∀i (h:i<j),n≠l[i]'(by omega)):Bc (l.map λx=>decide (n=x))=j:=by
 unfold Bc;have:(l.map λx=>decide (n=x)).findIdx? id=some j:=by
  rw[List.findIdx?_eq_some_iff_getElem];refine⟨XU,by simp[q],λi hi=>?_⟩;have:=p i hi;simpa using this
 rw[this]
def vN{l:List Bs}{n:Bs}(p:∀i (h:i<l.length),n≠l[i]):Bc (l.map λx=>decide (n=x))=-1:=by
 unfold Bc;have:(l.map λx=>decide (n=x)).findIdx? id=none:=by
  rw[List.findIdx?_eq_none_iff];intro b o;obtain⟨x,q,rfl⟩:=Qp.1 o;obtain⟨i,hi,rfl⟩:=QI q;simpa using p i hi
 rw[this]
def Gq(l:List Bs)(n:Bs):Bool:=l.any λx=>decide (n=x)
def dG(l:List Bs)(n:Bs):decide (0<=Bc (l.map λx=>decide (n=x)))=Gq l n:=by
 rw[GU,List.any_map];rfl
def aXs:=Ar []
def aQK:=RF aXs aLv [.t 4] 19
def aTQ:Kq aQK 312:=Ap (Aj func312) Ad
def aIC{nl:Bool}{l:List Bs}(n:Bs)(hl:l.length<=100000):aQK [.slice nl [] (strsD l),.str n]=some (.int .i64 (Bc (l.map λx=>decide (n=x)))):=by
 refine Al (Qa rfl) ?_;unfold aLv;simp only[↓C2,Hc,simprocAttr,AT];refine BO (n:=l.length) (I:=λj v=>v.s 0= .slice nl [] (strsD l)∧v.s 1= .str n∧v.s 7= .int .i64 l.length∧v.s 8= .int .i64 (j:Int)∧∀i (h:i<j) (y:i<l.length),n≠l[i]) (λj b ih v g hI=>?_) (λv g hI=>?_) 0 (Qf _) _ _ ⟨rfl,rfl,rfl,rfl,λi h=>absurd h (ZJ _)⟩
 ·obtain⟨m,o,r⟩:=v;obtain⟨f,u,k,h8,p⟩:=hI;simp only at f u k h8;refine Af Vt.eq_1 ?_;have w:((j:Int)<l.length):=by omega
  have z:=nJ (j:=j);have t:=wJ (j:=j) O;have c:=DB (l:=l) (j:=j) b;by_cases q:n=l[j]
  ·have e:=vO b q (λi h=>p i h O);have a:(n=l[j])=True:=eq_true q;simp only[↓C2,G9,G7,simprocAttr,f,u,k,h8,w,z,Qm,c,a];rw[e]
   all_goals exact Y6
  ·have a:(n=l[j])=False:=eq_false q;simp only[↓C2,G9,G7,simprocAttr,f,u,k,h8,w,z,Qm,c,a,t];refine ih _ _ ⟨f,u,k,rfl,λi h y=>?_⟩;rcases Nat.lt_or_eq_of_le (Nat.le_of_lt_succ h)with h|rfl
   ·exact p i h y
   ·exact q
 ·obtain⟨f,u,k,h8,p⟩:=hI;refine Af Vt.eq_1 ?_;have e:=vN (λi h=>p i h h);simp only[↓C2,G9,G7,simprocAttr,k,h8,Zb];rw[e]
  all_goals exact Y6
def aVE:=Ar [(312,Ac aQK)]
def aV2:=RF aVE aL9 [.t 4] 9
def aT8:Kq aV2 269:=Ap (Aj func269) (Aa aTQ Ad)
def aIT{nl:Bool}{l:List Bs}(n:Bs)(hl:l.length<=100000):aV2 [.slice nl [] (strsD l),.str n]=some (.bool (Gq l n)):=by
 refine Al (Qa rfl) ?_;unfold aL9;have a:=aIC (nl:=nl) n hl;have e:=dG l n;generalize Bc (l.map λx=>decide (n=x))=i at *;simp only[↓C2,G9,G7,simprocAttr,Ae aVE 312,a];rw[←e]
 all_goals exact Y6
def B4(l:List Bs):List Bs:=l.filterMap λs=>if(Cx s).2=0∧(Cx s).1.1=1 then some (Cx s).1.2.1 else none
def bP(l:List Bs)(s:Bs):B4 (l++[s])=B4 l++if(Cx s).2=0∧(Cx s).1.1=1 then [(Cx s).1.2.1]else []:=by
 grind [B4]
def Gx(e:Nat)(fr:Id)(m:Ha)(c:Nat)(nl:Bool)(t:Id):Prop:=(nl=true∧t=[])∨(nl=false∧∃k,t=k::fr∧k<c∧m t 0=some (.tok (e+1)))
def Gx.more{e:Nat}{fr:Id}{m:Ha}{c c':Nat}{nl:Bool}{t:Id}(h:Gx e fr m c nl t)(z:c<=c'):Gx e fr m c' nl t:=by
 rcases h with h|⟨u,k,y,i,p⟩
 ·exact .inl h
 ·exact .inr ⟨u,k,y,O,p⟩
def Gx.put{e:Nat}{fr:Id}{m:Ha}{c:Nat}{nl:Bool}{t:Id}{k o:Nat}{ds:List D}(h:Gx e fr m c nl t)(s:c<=k:=by omega):Gx e fr (m.put (k::fr) o ds) c nl t:=by
 rcases h with h|⟨u,q,y,i,p⟩
 ·exact .inl h
 ·refine .inr ⟨u,q,y,i,?_⟩;rw[aA]
  ·exact p
  ·rw[y];simp;omega
def Gx.grow{e:Nat}{fr:Id}{m:Ha}{c:Nat}{nl:Bool}{t:Id}{xs:List D}(h:Gx e fr m c nl t):LK m e (.slice nl t xs):=by
 rcases h with h|⟨u,q,y,i,p⟩
 ·exact .inl h.1
 ·exact .inr ⟨p,by rw[y];simp⟩
def Gx.app{e:Nat}{fr:Id}{m:Ha}{c' k:Nat}{nl:Bool}{t:Id}{xs:List D}(s:k<c'):Gx e fr (Hf.app m (Bh e (k::fr) (.slice nl t xs))) c' false (k::fr):=
 .inr ⟨rfl,k,rfl,s,by rw[De,if_pos ⟨rfl,rfl⟩]⟩
def Wt.own{i fr t0 t:Id}{m0 m:Ha}{nl0:Bool}{w:Wb}{o:Oc}{e c k:Nat}{nl:Bool}{b:Id}{xs:List D}(h:Wt i fr m0 nl0 t0 m w o t)(y:∀j x,fr<:+j->m0 j x=none)(p:∀k,(i=k::fr)=False)(a:Gx e fr m c nl b):Wt i fr m0 nl0 t0 (Hf.app m (Bh e (k::fr) (.slice nl b xs))) w o t:=by
 rcases a with ⟨rfl,_⟩|⟨rfl,q,rfl,_,_⟩
 ·exact h.put y p
 ·exact(h.put y p).put y p
def S62(G:List D->Option D):G8:=Ar [(213,Ac yK),(215,Ac mX),(216,wQ VW),(22,Ac R38),(217,Ac G),(145,wQ fT)]
def W62(G:List D->Option D):Wb->Oc->List D->Option WY:=RW (S62 G) aHO [] 72
def aWV{G:List D->Option D}(h:Kq G 217):(wQ (W62 G)).ok Qc 152:=Dn (Aj func152:Fn Qc 152 72 aHO []) (Aa aKF (Aa aUn (Aa aBz (Aa aTF (Aa h (Aa kB Ad))))))
def aD8(G:List D->Option D)(w:Wb)(o:Oc)(v:Oc)(ol:Option (List Nat))(g:o.nl=true->o.ops=[])(ab:Bool)(f:List Bs)(c:w.a.pa.length<=1000000)(r:mX [.agg (HG w.k),.str ([109,47]++w.a.pa++[47])]=some (.tup [.slice ab [] (strsD f),.bool false]))(q:VW w o [.str ([109,47]++w.a.pa++[47]),.bool true]=some (.tup [],v,ol)):W62 G w o []=some (.tup [],v,ol.map (·++[24])):=by
 refine Ba g ⟨Qa rfl,λh=>CA q h,λl h=>Cz q h,λi m fr t x j p n0=>?_⟩;have z:S62 G 213=some (Ac yK):=rfl;have na:S62 G 215=some (Ac mX):=rfl;have b:S62 G 216=some (wQ VW):=rfl;have hW:=Wt.start x j;unfold aHO;have s:=AM x.1;have e:=V0 w.a.pa c;generalize y:([109,47]++w.a.pa++[47]:Bs)=u at *;generalize ([100,47]++w.a.pa++[47]:Bs)=q2 at *;unfold HG at r;have y1:((1:Nat):Int)=1:=rfl;have y2:((2:Nat):Int)=2:=rfl;have cb:(0:Int)<=0:=ZS _;simp only[Hb,↓C2,G7,simprocAttr,s,cb,Q1,Qb,Qg,Ab z,e,Ab na,r,AE b];refine Aq hW q (λM c1 n=>?_);simp only[↓C2,Hc,simprocAttr];exact c1.endc x.2.2
def aQc(G:List D->Option D)(w:Wb)(o:Oc)(o2:Oc)(ho:o.nl=true->o.ops=[])(ab:Bool)(f:List Bs)(hp:w.a.pa.length<=1000000)(r:mX [.agg (HG w.k),.str ([109,47]++w.a.pa++[47])]=some (.tup [.slice ab [] (strsD f),.bool true]))(hl:f.length<=2000)(hs:∀s∈f,s.length<=1000000)(nn:Bool)(d:List Bs)(eb:∀b,(b=true->B4 f=[])->G [.str w.a.pa,.slice b [] (strsD (B4 f))]=some (.slice nn [] (strsD d)))(ua:d.length<=2000)(jb:nn=true->d=[])(qa:fT w o [.agg (HQ (.names nn (d.take 64)))]=some (.tup [],o2,none)):W62 G w o []=some (.tup [],o2,none):=by
 refine Ba ho ⟨Qa rfl,λh=>((E4 qa).2.1 rfl),λl h=>Xc,λi m fr t ha ba ja n0=>?_⟩;have fa:S62 G 213=some (Ac yK):=rfl;have na:S62 G 215=some (Ac mX):=rfl;have fb:S62 G 22=some (Ac R38):=rfl;have db:S62 G 217=some (Ac G):=rfl;have ya:S62 G 145=some (wQ fT):=rfl;have hW:=Wt.start ha ba;unfold aHO;have xx:=AM ha.1;have ga:=V0 w.a.pa hp;generalize ra:([109,47]++w.a.pa++[47]:Bs)=q1 at *;generalize ([100,47]++w.a.pa++[47]:Bs)=q2 at *;unfold HG at r;have y1:((1:Nat):Int)=1:=rfl;have y2:((2:Nat):Int)=2:=rfl;have cb:(0:Int)<=0:=ZS _;simp only[Hb,↓C2,G7,simprocAttr,xx,cb,Q1,Qb,Qg,Ab fa,ga,Ab na,r,AT];refine BO (n:=f.length) (I:=λj st=>st.s 33= .slice ab [] (strsD f)∧st.s 34= .int .i64 f.length∧st.s 35= .int .i64 (j:Int)∧st.s 0= .ptr i 0∧∃nl' t',st.s 5= .slice nl' t' (strsD (B4 (f.take j)))∧(nl'=true->B4 (f.take j)=[])∧Gx 9 fr st.m st.c nl' t'∧Wt i fr m o.nl t st.m w o t) (λj hj ih st g hI=>?_) (λst g hI=>?_) 0 (Qf _) _ _ ⟨rfl,rfl,rfl,rfl,true,[],rfl,λ_=>rfl,.inl ⟨rfl,rfl⟩,hW⟩
 ·obtain⟨ma,ia,ea⟩:=st;obtain⟨z,u,la,y,nl',t',h5,wa,hG,hw⟩:=hI;simp only at z u la y h5 hG hw;refine Af lM.eq_1 ?_;have da:((j:Int)<(f.length:Int))=True:=eq_true O;have oa:=nJ (j:=j);have sa:IntKind.i64.wrap ((j:Int)+1)=((j+1:Nat):Int):=by rw[Hy O O];omega
  have ka:=DB (l:=f) (j:=j) hj;have ca:=mW f[j] (hs _ (QL hj));have aa:f.take (j+1)=f.take j++[f[j]]:=QR hj;have ta:(B4 (f.take j)).length<=j:=by
   have:=Q5 (λs=>if(Cx s).2=0∧(Cx s).1.1=1 then some (Cx s).1.2.1 else none) (f.take j);rw[Za]at this;unfold B4;omega
  have va:=bP (f.take j) f[j];rw[←aa]at va;generalize f[j]=x at *;generalize Cx x=px at *;obtain⟨⟨kk,nm,vv⟩,e⟩:=px;simp only at va ca;unfold kyD at ca;by_cases he:e=0
  ·subst he;by_cases hk:kk=1
   ·subst hk;simp only[and_self,if_true]at va;simp only[Hb,↓C2,G7,simprocAttr,z,u,la,h5,da,oa,Qm,ka,AT,Ab fb,ca];have gb:=((hG.put (k:=ea+1+3+5) (o:=0) (ds:=[.int .u8 0,.str [],.int .i64 0]) O).put (k:=ea+1+3+5) (o:=0) (ds:=[.int .u8 1,.str nm,.int .i64 vv]) O).put (k:=ea+1+3+8+7+3) (o:=0) (ds:=[.tok 10]) O;have hb:=((hw.put (q:=ea+1+3+5) (p:=0) (ys:=[.int .u8 0,.str [],.int .i64 0])).put (q:=ea+1+3+5) (p:=0) (ys:=[.int .u8 1,.str nm,.int .i64 vv])).put (q:=ea+1+3+8+7+3) (p:=0) (ys:=[.tok 10]);refine Au.intro ⟨O,rfl,gb.grow⟩ ?_;rw[B8 (λh=>by rw[wa h];rfl),NC];have bb:=hb.own (e:=9) (k:=ea+1+3+8+7+4) (xs:=strsD (B4 (f.take j))) ba n0 gb;have kb:=Gx.app (e:=9) (fr:=fr) (m:=((ia.put ((ea+1+3+5)::fr) 0 [D.int .u8 0,.str [],.int .i64 0]).put ((ea+1+3+5)::fr) 0 [.int .u8 1,.str nm,.int .i64 vv]).put ((ea+1+3+8+7+3)::fr) 0 [.tok 10]) (k:=ea+1+3+8+7+4) (c':=ea+1+3+8+7+5) (nl:=nl') (t:=t') (xs:=strsD (B4 (f.take j))) O;simp only[↓C2,Hc,simprocAttr,la,sa];exact ih _ _ ⟨z,u,rfl,y,false,(ea+1+3+8+7+4)::fr,(by rw[va];show D.slice _ _ _=_;simp[strsD]),(λh=>Xc),kb.more (c':=ea+1+3+8+7+6+2) O,bb⟩
   ·rw[if_neg (λh=>hk h.2),Zu]at va;simp only[Hb,↓C2,G7,simprocAttr,z,u,la,da,oa,Qm,ka,Ab fb,ca,eq_false hk,sa];exact ih _ _ ⟨z,u,rfl,y,nl',t',by rw[va];exact h5,by rw[va];exact wa,hG.put.put.more Xa,hw.put.put⟩
  ·rw[if_neg (λh=>he h.1),Zu]at va;simp only[Hb,↓C2,G7,simprocAttr,z,u,la,da,oa,Qm,ka,Ab fb,ca,eq_false he,sa];exact ih _ _ ⟨z,u,rfl,y,nl',t',by rw[va];exact h5,by rw[va];exact wa,hG.put.put.more Xa,hw.put.put⟩
 ·obtain⟨ma,ia,ea⟩:=st;obtain⟨z,u,la,y,nl',t',h5,wa,hG,hw⟩:=hI;simp only at z u la y h5 hG hw;refine Af lM.eq_1 ?_;rw[Zn]at h5 wa;have xa:=eb nl' wa;have za:ZA 64 (strsD d)=strsD (d.take 64):=(ZO ..).symm;have xx:=AM hw.at_.1;have hq:∃q:Int,min (d.length:Int) 64=q∧0<=q∧q<=(d.length:Int)∧q.toNat<=d.length∧ZA q.toNat (strsD d)=strsD (d.take 64):=by
   refine⟨_,rfl,O,O,O,?_⟩;rw[←za];by_cases c:d.length<=64
   ·rw[QJ (by rw[AT];omega),QJ (by rw[AT];omega)]
   ·grind
  obtain⟨q,v,q0,ib,lb,q3⟩:=hq;have hd:aE (strsD d) 1=1:=by cases d<;>rfl
  simp only[HQ]at qa;simp only[↓C2,G9,G7,simprocAttr,y,u,la,h5,Zb,xx.2.2.2.2.2.2.2.1,Ab db,xa,AT,v,q0,ib,hd,Q2,q3,AE ya];refine Aq hw qa (λM c1 c2=>?_);simp only[↓C2,Hc,simprocAttr];exact c1.end0 ha.2.2
def Dr(o:Oc)(l:List Bs):Oc:={o with nl:=o.nl&&l.isEmpty,ops:=o.ops++l.map λn=>(2,An 3 n 0,[])}
def aCa{o:Oc}{l:List Bs}{n:Bs}:(Dr o l).op 2 (An 3 n 0) []=Dr o (l++[n]):=by
 simp[Dr,Oc.op]
def vF{o:Oc}:Dr o []=o:=by simp[Dr]
def WX(o:Oc)(nl:Bool)(k:List Tk)(gnl:Bool)(gone:List Bs):Oc:={Dr (Sp o nl k) gone with rep:=Is (.names gnl gone)}
def S61(G:List D->Option D):G8:=Ar [(214,Ac G),(144,wQ ON),(211,Ac Fs),(210,wQ Oa),(145,wQ fT)]
def W61(G:List D->Option D):Wb->Oc->List D->Option WY:=RW (S61 G) aHP [] 48
def aWW{G:List D->Option D}(h:Kq G 214):(wQ (W61 G)).ok Qc 151:=Dn (Aj func151:Fn Qc 151 48 aHP []) (Aa h (Aa Sx (Aa IP (Aa MS (Aa kB Ad)))))
def aD9(G:List D->Option D)(w:Wb)(o:Oc)(o2:Oc)(ol:Option (List Nat))(g:o.nl=true->o.ops=[])(r:Bool)(k2:List Tk)(gnl:Bool)(gone:List Bs)(e:Int)(d:G [.agg [.slice w.v.nlt [] (AJ w.v.ks)],.str w.a.ot]=some (.tup [.agg [.slice r [] (AJ k2)],.slice gnl [] (strsD gone),.int .i64 e]))(z:e≠0)(y:ON w o [.int .i64 e]=some (.tup [],o2,ol)):W61 G w o []=some (.tup [],o2,ol.map (·++[23])):=by
 refine Ba g ⟨Qa rfl,λh=>CA y h,λl h=>Cz y h,λi m fr t x j p n0=>?_⟩;have b:S61 G 214=some (Ac G):=rfl;have c:S61 G 144=some (wQ ON):=rfl;have q:=Wt.start x j;unfold aHP;have k:=AM x.1;simp only[Hb,↓C2,G7,simprocAttr,k,Ab b,d];refine Wh ?_;simp only[↓C2,G9,G7,simprocAttr,eq_false z,AE c];refine Aq q.put.put y (λM c1 n=>?_);simp only[↓C2,Hc,simprocAttr];exact c1.endc x.2.2
def aQd(G:List D->Option D)(w:Wb)(o:Oc)(fa:Bool)(k2:List Tk)(gnl:Bool)(gone:List Bs)(d:G [.agg [.slice w.v.nlt [] (AJ w.v.ks)],.str w.a.ot]=some (.tup [.agg [.slice fa [] (AJ k2)],.slice gnl [] (strsD gone),.int .i64 0]))(h0:iD o)(hg:gone≠[])(hl:gone.length<=900)(hs:∀s∈gone,s.length<=1000000)(va:gnl=true->gone=[]):W61 G w o []=some (.tup [],WX o fa k2 gnl gone,some ([11,28+10*gone.length])):=by
 refine Ba (λ_=>h0.ops) ⟨Qa rfl,λh=>Xc,λl h=>(by simp only[Qt]at h;subst h;exact⟨by cases gone with|nil=>exact absurd rfl hg|cons a r=>simp[WX,Dr],U⟩),λi m fr t ha ba ja n0=>?_⟩;have b:S61 G 214=some (Ac G):=rfl;have k:S61 G 211=some (Ac Fs):=rfl;have f:S61 G 210=some (wQ Oa):=rfl;have ya:S61 G 145=some (wQ fT):=rfl;have hW:=Wt.start ha ba;unfold aHP;have xx:=AM ha.1;have qa:=I8 w (Dr (Sp o fa k2) gone) (.names gnl gone) (λh=>by
  simp only[Dr,QB,ZH]at h;exact absurd h.2 hg) (by show gone.length<=1000;omega) va
 simp only[HQ]at qa;have wa:(Sp o fa k2).nl=o.nl∧(Sp o fa k2).ops=[]:=⟨rfl,h0.ops⟩;simp only[Hb,↓C2,G7,simprocAttr,xx,Ab b,d];refine Wh ?_;simp only[Hb,↓C2,G7,simprocAttr,xx,n0,AT];refine BO (n:=gone.length) (I:=λj x=>x.s 33= .slice gnl [] (strsD gone)∧x.s 34= .int .i64 gone.length∧x.s 35= .int .i64 (j:Int)∧x.s 0= .ptr i 0∧x.s 3= .slice gnl [] (strsD gone)∧x.c=31+10*j∧Wt i fr m o.nl t x.m w (Dr (Sp o fa k2) (gone.take j)) (if j=0 then t else [11,28+10*j]++fr)) (λj q ih x g hI=>?_) (λx g hI=>?_) 0 (Qf _) _ _ ⟨rfl,rfl,rfl,rfl,rfl,rfl,?_⟩
 ·obtain⟨ma,ia,ea⟩:=x;obtain⟨z,u,la,y,h3,hc,hw⟩:=hI;simp only at z u la y h3 hc hw;refine Af lN.eq_1 ?_;have da:((j:Int)<(gone.length:Int))=True:=eq_true O;have oa:=nJ (j:=j);have ka:=DB (l:=gone) (j:=j) q;have sa:IntKind.i64.wrap ((j:Int)+1)=((j+1:Nat):Int):=by rw[Hy O O];omega
  have ca:=CY 3 0 gone[j] (hs _ (QL q));have ra:(Dr (Sp o fa k2) (gone.take j)).nl=true->(Dr (Sp o fa k2) (gone.take j)).ops=[]:=λh=>by
   simp only[Dr,QB,ZH]at h ⊢;rw[wa.2,h.2];rfl
  have ua:(Dr (Sp o fa k2) (gone.take j)).ops.length<=1000:=by simp[Dr,wa.2];omega
  have na:=DQ w (Dr (Sp o fa k2) (gone.take j)) 2 (An 3 gone[j] 0) [] ra ua;rw[aCa,←QR q]at na;simp only[↓C2,G9,G7,simprocAttr,y,z,u,la,da,oa,Qm,ka,Ab k,ca,AE f];refine Aq hw na (λM c1 c2=>?_);have e:MJ (if j=0 then t else [11,28+10*j]++fr) ((ea+1+3+3)::fr) (some [11])=(if j+1=0 then t else [11,28+10*(j+1)]++fr):=by
   rw[if_neg (Ql j)];show [11]++_::fr=_;rw[show ea+1+3+3=28+10*(j+1)by omega];rfl
  rw[e]at c1;simp only[↓C2,Hc,simprocAttr,la,sa];exact ih _ _ ⟨z,u,rfl,y,h3,Xa,c1⟩
 ·obtain⟨ma,ia,ea⟩:=x;obtain⟨z,u,la,y,h3,hc,hw⟩:=hI;simp only at z u la y h3 hc hw;refine Af lN.eq_1 ?_;have ga:gone.length≠0:=λh=>hg (Zo.1 h)
  rw[Zn,if_neg ga]at hw;simp only[↓C2,G9,G7,simprocAttr,y,u,la,h3,Zb,AE ya];refine Aq hw qa (λM c1 c2=>?_);simp only[↓C2,Hc,simprocAttr];exact c1.endl (l:=[11,28+10*gone.length]) U
 ·simp only[Zf,vF,if_true];exact(hW.put.put.cellp (p:=29) (ys:=[.slice fa [] (AJ k2)]) (o':=Sp o fa k2) (Qa rfl) rfl rfl rfl)
def rH(m w:List D->Option D):G8:=Ar [(143,Ac zI),(144,wQ ON),(145,wQ fT),(146,wQ zG),(147,wQ W57),(148,wQ W58),(149,wQ W59),(150,wQ W60),(151,wQ (W61 m)),(152,wQ (W62 w)),(153,wQ Wi),(154,wQ Ua)]
def R19(m w:List D->Option D):List D->Option D:=RF (rH m w) aHU [.cell (some 9) 6] 88
def aW4{m w:List D->Option D}(u:Kq m 214)(y:Kq w 217):(Ac (R19 m w)).ok Qc 87:=Ap (Aj func87:Fn Qc 87 88 aHU [.cell (some 9) 6]) (Aa aWD (Aa Sx (Aa kB (Aa kA (Aa aW0 (Aa aWZ (Aa aWY (Aa aWX (Aa (aWW u) (Aa (aWV y) (Aa aWU (Aa aWT Ad))))))))))))
def He(v:Vw):Oc:=⟨[],false,[],true,[],v⟩
def LZ(o:Oc):List D:=[.str o.need,.bool o.li,.str o.rep,.slice o.nl [] (El o.ops)]++HH o.vw
def aN5{m:Ha}{i:Id}{w:Wb}{o o':Oc}{k:Nat}{d:D}{ol:Option (List Nat)}(g:o.nl=true)(hi:∀l,i≠l++[k]):Ag (Hf.app m (Wp i w o [] [k] (d,o',ol))) i 0 30=some (HY w o' (MJ [] [k] ol)):=by
 cases ol with
 |none=>exact Hx (CP _ _ _)
 |some l=>
  show Ag _ i 0 30=some (HY w o' (l++[k]));rw[←Hx (m:=m) (i:=i) (CP w o' (l++[k]))];refine BF (λq v=>?_);have y:q.1=i:=Fh v;show Hf.app (m.put i 0 (HY w o' (l++[k]))) (Bh 167 (l++[k]) (.slice o.nl [] (El o.ops))) q.1 q.2=_;rw[GF,y,if_neg (λe=>hi l e.1),if_neg (λe=>by rw[g]at e;cases e.1)]
def aF0{m:Ha}{i j:Id}{w:Wb}{o o':Oc}{k x:Nat}{d:D}{ol:Option (List Nat)}(g:o.nl=true)(hi:∀l,j≠l++[k])(q:j≠i):Hf.app m (Wp i w o [] [k] (d,o',ol)) j x=m j x:=by
 cases ol with
 |none=>exact aA q
 |some l=>
  show Hf.app (m.put i 0 (HY w o' (l++[k]))) (Bh 167 (l++[k]) (.slice o.nl [] (El o.ops))) j x=_;rw[GF,if_neg (λe=>hi l e.1),if_neg (λe=>by rw[g]at e;cases e.1),aA q]
def UW{a k:Nat}(h:a≠k):∀l:List Nat,([a]:Id)≠l++[k]:=λl e=>h (by have:=congrArg ZP e;simpa using this)
def pQ{i:Id}{m:Ha}{w:Wb}{o o':Oc}{v:List D}{d:D}{ol:Option (List Nat)}{F:Wb->Oc->List D->Option WY}{S:G8}{c k n:Nat}{ops l:List DOper}{s:Nat->D}{z:Option Nat}{K:Nat->(Nat->D)->Ha->Prop}{g}
  (f:F w o v=some (d,o',ol)) (r:VK m i (w,o,[])) (ho:o.nl=true) (hi:∀l,i≠l++[n])
  (h:∀M,Ag M i 0 30=some (HY w o' (MJ [] [n] ol))->(∀j x,(∀l,j≠l++[n])->j≠i->M j x=m j x)->Gb S [] c ops l k (Cq s z d) M K):
  Hq ((wQ F).ex (.ptr i 0::v) m [n]) (λx=>WQ S [] c ops l k s z m K x.1 x.2) g:=
 pP r f (h _ (aN5 ho hi) (λ_ _ u y=>aF0 ho u y))
inductive MO (G1 G2:List D->Option D) (v:Vw):Int->Oc->List D->(Wb->Oc->List D->Option WY)->Prop
 |o1:MO G1 G2 v 1 (He v) [.agg (HQ (.state v.se))] fT
 |o2:MO G1 G2 v 2 {He v with vw:={v with se:=false}} [] zG
 |o3:MO G1 G2 v 3 {He v with vw:={v with se:=true}} [] zG
 |o4:MO G1 G2 v 4 (He v) [] W57
 |o5:MO G1 G2 v 5 (He v) [] W58
 |o6:MO G1 G2 v 6 (He v) [] W59
 |o7:MO G1 G2 v 7 (He v) [] W60
 |o8:MO G1 G2 v 8 (He v) [] (W61 G1)
 |o17:MO G1 G2 v 17 (He v) [] (W62 G2)
 |o9:MO G1 G2 v 9 (He v) [] Wi
 |o18:MO G1 G2 v 18 (He v) [] Wi
 |o10:MO G1 G2 v 10 (He v) [] Ua
 |o11:MO G1 G2 v 11 (He v) [] Ua
 |o12:MO G1 G2 v 12 (He v) [] Ua
 |o13:MO G1 G2 v 13 (He v) [] Ua
 |o14:MO G1 G2 v 14 (He v) [] Ua
 |o15:MO G1 G2 v 15 (He v) [] Ua
 |o16:MO G1 G2 v 16 (He v) [] Ua
def BJ{G1 G2:List D->Option D}{v:Vw}{op:Int}{oc:Oc}{y:List D}{W:Wb->Oc->List D->Option WY}(hM:MO G1 G2 v op oc y W)(a:Ak)(k:Kn)(r:a.op=op)(p:zI [HZ v,HA a]=some (.int .i64 0))(t:Oc)(ol:Option (List Nat))(w:W ⟨v,a,k⟩ oc y=some (.tup [],t,ol)):R19 G1 G2 [HZ v,HA a,.agg (HG k)]=some (.agg (LZ t)):=by
 refine Al (Qa rfl) ?_;have b:rH G1 G2 143=some (Ac zI):=rfl;have ya:rH G1 G2 145=some (wQ fT):=rfl;have l:rH G1 G2 146=some (wQ zG):=rfl;have e:rH G1 G2 147=some (wQ W57):=rfl;have j:rH G1 G2 148=some (wQ W58):=rfl;have m:rH G1 G2 149=some (wQ W59):=rfl;have g:rH G1 G2 150=some (wQ W60):=rfl;have i:rH G1 G2 151=some (wQ (W61 G1)):=rfl;have o:rH G1 G2 152=some (wQ (W62 G2)):=rfl;have c:rH G1 G2 153=some (wQ Wi):=rfl;have h:rH G1 G2 154=some (wQ Ua):=rfl;unfold aHU;obtain⟨op,tk,pa,ot,n,cas,fl,d,ns,u,f,rs,z⟩:=a;simp only at r;subst r;unfold HZ HA at *;unfold HH Hw HG at *;cases hM<;>simp only[Hb,↓C2,G7,simprocAttr,Ab b,p,AE ya,AE l,AE e,AE j,AE m,AE g,AE i,AE o,AE c,AE h]
 all_goals
  refine pQ w ⟨by first|exact Hx rfl|exact(iX (show Ag _ [10] 0 30=some (HY ⟨v,⟨_,tk,pa,ot,n,cas,fl,d,ns,u,f,rs,z⟩,k⟩ (He v) [])from Hx rfl) (Qa rfl)).trans rfl,rfl,λ_=>rfl⟩ rfl (UW V) (λM c1 q=>?_);have s:=AM c1;have c3:∀x,M [3] x=_:=λx=>q [3] x (UW V) V
  simp only[Hb,↓C2,G7,simprocAttr,s,c3]
  all_goals exact Y6
def aEt(m w:List D->Option D)(v:Vw)(a:Ak)(k:Kn)(e:Int)(r:e≠0)(p:zI [HZ v,HA a]=some (.int .i64 e))(t:Oc)(ol:Option (List Nat))(j:ON ⟨v,a,k⟩ (He v) [.int .i64 e]=some (.tup [],t,ol)):R19 m w [HZ v,HA a,.agg (HG k)]=some (.agg (LZ t)):=by
 refine Al (Qa rfl) ?_;have b:rH m w 143=some (Ac zI):=rfl;have c:rH m w 144=some (wQ ON):=rfl;unfold aHU;obtain⟨op,tk,y,g,n,cas,i,d,ns,u,f,rs,z⟩:=a;unfold HZ HA at *;unfold HH Hw HG at *;simp only[Hb,↓C2,G7,simprocAttr,Ab b,p,eq_false r,AE c];refine pQ j ⟨Hx rfl,rfl,λ_=>rfl⟩ rfl (UW V) (λM c1 q=>?_);have s:=AM c1;have o:∀x,M [3] x=_:=λx=>q [3] x (UW V) V
 simp only[Hb,↓C2,G7,simprocAttr,s,o]
 all_goals exact Y6
def B6(l:List Tk)(s:Bs):List Bs:=(l.filter λt=>decide (t.2.1=s)&&decide (t.1≠s)).map (·.1)
def D8(l:List Tk):Nat->Bs->List Bs
 |0,s=>[s]
 |f+1,s=>s::(B6 l s).flatMap (D8 l f)
structure HV (l:List Tk) (r:Bs->Nat):Prop where
 up:∀t∈l,r t.2.1<r t.1
 top:∀t∈l,r t.1<=l.length
 one:l.Pairwise λt u=>t.1≠u.1
def HV.eq{l:List Tk}{r:Bs->Nat}(h:HV l r){t u:Tk}(p:t∈l)(z:u∈l)(e:t.1=u.1):t=u:=by
 have q:=h.one;clear h;induction l with
 |nil=>cases p
 |cons a l ih=>
  rw[QM]at q;rcases Qn.1 p with ht'|ht'
  ·grind
  ·grind
inductive H7 (l:List Tk) (s:Bs):Bs->Prop
 |refl:H7 l s s
 |step (t:Tk):t∈l->H7 l s t.2.1->H7 l s t.1
def H7.trans{l:List Tk}{a b c:Bs}(h:H7 l a b)(k:H7 l b c):H7 l a c:=by
 induction k with
 |refl=>exact h
 |step t p _ ih=>exact .step t p ih
def U9{l:List Tk}{s c:Bs}(h:c∈B6 l s):∃t∈l,t.2.1=s∧t.1=c∧c≠s:=by
 grind [B6]
def Ly{l:List Tk}:∀(f:Nat)(s x:Bs),x∈D8 l f s->H7 l s x
 |0,s,x,h=>by
  rw[D8,Zg]at h;subst h;exact .refl
 |f+1,s,x,h=>by
  rw[D8]at h;rcases Qn.1 h with rfl|h
  ·exact .refl
  ·obtain⟨c,z,q⟩:=Zp.1 h;obtain⟨t,p,rfl,rfl,_⟩:=U9 z;exact(H7.step t p .refl).trans (Ly f _ x q)
section
variable{l:List Tk}{r:Bs->Nat}(T:HV l r)
include T
def fJ{s x:Bs}(h:H7 l s x):r s<=r x:=by
 induction h with
 |refl=>exact Qe _
 |step t p _ ih=>exact QG ih (Nat.le_of_lt (T.up t p))
def aDU{a b x:Bs}(h:H7 l a x)(k:H7 l b x):H7 l a b∨H7 l b a:=by
 induction h with
 |refl=>exact .inr k
 |step t p q ih=>
  generalize e:t.1=y at k;cases k with
  |refl=>subst e;exact .inl (.step t p q)
  |step u z o=>
   have:=T.eq p z e;subst this;exact ih o
def IQ{s c:Bs}(h:c∈B6 l s):r s<r c∧r c<=l.length:=by
 obtain⟨t,p,rfl,rfl,_⟩:=U9 h;exact⟨T.up t p,T.top t p⟩
theorem pJ{s a b:Bs}(x:a∈B6 l s)(o:b∈B6 l s)(h:H7 l a b):a=b:=by
 have q:=(IQ T x).1;obtain⟨u,z,c,rfl,_⟩:=U9 o;generalize e:u.1=y at h;cases h with
 |refl=>rfl
 |step t p f=>
  have:=T.eq p z e.symm;subst this;have:=fJ T f;rw[c]at this;omega
def kF(s:Bs):(B6 l s).Nodup:=by
 unfold B6;have h:=(T.one.filter (λt=>decide (t.2.1=s)&&decide (t.1≠s)));rw[QN];exact List.pairwise_map.2 h
def TU:∀(f:Nat)(s:Bs),(D8 l f s).Nodup
 |0,s=>by simp[D8]
 |f+1,s=>by
  rw[D8,ZK];refine⟨λh=>?_,?_⟩
  ·obtain⟨c,z,q⟩:=Zp.1 h;have:=fJ T (Ly f c s q);have:=(IQ T z).1;omega
  ·rw[QN,List.pairwise_flatMap];refine⟨λc _=>QN.1 (TU f c),?_⟩;have t:=QN.1 (kF T s);refine List.Pairwise.imp_of_mem ?_ t;intro a b r o ga x q y m e;subst e;rcases aDU T (Ly f a x q) (Ly f b x m)with h|h
   ·grind [pJ]
   ·grind [pJ]
omit T in
def Vl{f:Nat}{s x:Bs}(h:x∈D8 l f s):x∈s::l.map (·.1):=by
 have:=Ly f s x h;cases this with
 |refl=>exact Qo ..
 |step t p _=>exact Qu _ (Qp.2 ⟨t,p,rfl⟩)
omit T in
def Tl:∀(a b:List Bs),a.Nodup->(∀x∈a,x∈b)->a.length<=b.length
 |[],b,_,_=>Qf _
 |x::a,b,h,k=>by
  rw[ZK]at h;have q:=k x (Qo ..);have:=Tl a (b.erase x) h.2 (λy o=>by
   have c:=k y (Qu _ o);exact(List.mem_erase_of_ne (λ(e:y=x)=>h.1 (by rw[←e];exact o))).2 c)
  rw[List.length_erase_of_mem q]at this;have u:0<b.length:=List.length_pos_of_mem q;rw[Qb];omega
def qE(f:Nat)(s:Bs):(D8 l f s).length<=l.length+1:=by
 have:=Tl _ _ (TU T f s) (λx q=>Vl q);simpa using this
end
end Go.Vd
namespace Go.Proofs
open Go.Shelf
def aZ:Go.Shelf.Ren:=⟨λ|190=>268|125=>252|258=>311|128=>304|129=>305|302=>333|303=>334|304=>335|305=>336|306=>337|307=>338|308=>339|309=>340|310=>341|333=>345|329=>325|330=>326|334=>346|335=>347|336=>113|344=>348|n=>n,λ|31=>23|9=>9|3=>3|46=>109|0=>0|51=>268|53=>185|4=>4|183=>347|182=>346|131=>103|5=>5|218=>375|222=>379|228=>389|229=>390|n=>n,λ|n=>n⟩
def aT:Go.Proofs.Lays.n190 Qc aZ:={
 mixed:=Z
 f125:=func252.trans (congrArg some Z)
 f128:=func304.trans (congrArg some Z)
 f129:=func305.trans (congrArg some Z)
 f190:=func268.trans (congrArg some Z)
 f258:=func311.trans (congrArg some Z)
 f302:=func333.trans (congrArg some Z)
 f303:=func334.trans (congrArg some Z)
 f304:=func335.trans (congrArg some Z)
 f305:=func336.trans (congrArg some Z)
 f306:=func337.trans (congrArg some Z)
 f307:=func338.trans (congrArg some Z)
 f308:=func339.trans (congrArg some Z)
 f309:=func340.trans (congrArg some Z)
 f310:=func341.trans (congrArg some Z)
 f329:=func325.trans (congrArg some Z)
 f330:=func326.trans (congrArg some Z)
 f333:=func345.trans (congrArg some Z)
 f334:=func346.trans (congrArg some Z)
 f335:=func347.trans (congrArg some Z)
 f336:=func113.trans (congrArg some Z)
 f344:=func348.trans (congrArg some Z)
 t0:=underlying0
 a0:=isAgg0
 z0:=sizeOf0
 v0:=zeroValue0
 t3:=underlying3
 a3:=isAgg3
 z3:=sizeOf3
 v3:=zeroValue3
 t4:=underlying4
 a4:=isAgg4
 z4:=sizeOf4
 v4:=zeroValue4
 t5:=underlying5
 a5:=isAgg5
 z5:=sizeOf5
 v5:=zeroValue5
 t9:=underlying9
 a9:=isAgg9
 z9:=sizeOf9
 v9:=zeroValue9
 t31:=underlying23
 a31:=isAgg23
 z31:=sizeOf23
 v31:=zeroValue23
 t46:=underlying109
 a46:=isAgg109
 z46:=sizeOf109
 v46:=zeroValue109
 t51:=underlying268
 a51:=isAgg268
 z51:=sizeOf268
 v51:=zeroValue268
 t53:=underlying185
 a53:=isAgg185
 z53:=sizeOf185
 v53:=zeroValue185
 t131:=underlying103
 a131:=isAgg103
 z131:=sizeOf103
 v131:=zeroValue103
 t182:=underlying346
 a182:=isAgg346
 z182:=sizeOf346
 v182:=zeroValue346
 t183:=underlying347
 a183:=isAgg347
 z183:=sizeOf347
 v183:=zeroValue347
 t218:=underlying375
 a218:=isAgg375
 z218:=sizeOf375
 v218:=zeroValue375
 t222:=underlying379
 a222:=isAgg379
 z222:=sizeOf379
 v222:=zeroValue379
 t228:=underlying389
 a228:=isAgg389
 z228:=sizeOf389
 v228:=zeroValue389
 t229:=underlying390
 a229:=isAgg390
 z229:=sizeOf390
 v229:=zeroValue390}
def bA:Go.Shelf.Ren:=⟨λ|194=>272|n=>n,λ|31=>23|9=>9|3=>3|4=>4|0=>0|n=>n,λ|n=>n⟩
def aY:Go.Proofs.Lays.n194 Qc bA:={
 mixed:=Z
 f194:=func272.trans (congrArg some Z)
 t0:=underlying0
 a0:=isAgg0
 z0:=sizeOf0
 v0:=zeroValue0
 t3:=underlying3
 a3:=isAgg3
 z3:=sizeOf3
 v3:=zeroValue3
 t4:=underlying4
 a4:=isAgg4
 z4:=sizeOf4
 v4:=zeroValue4
 t9:=underlying9
 a9:=isAgg9
 z9:=sizeOf9
 v9:=zeroValue9
 t31:=underlying23
 a31:=isAgg23
 z31:=sizeOf23
 v31:=zeroValue23}
end Go.Proofs
namespace Go.Vd
open Go.Proofs Go.RowKit
def Gh.base(G:Nat->Nat):Gh:={G:=G,G0:=G,dl:=λ_=>none,tb:=λ_=>none}
theorem IJ {P : Program} {f : FuncId} {F : List D → Option D} (ga : ∃ fn, P.funcs[f]? = some fn ∧ fn.body.isSome = true ∧ (fn.name == "runtime.NumGoroutine") = false)
  (h : ∀ ds r, F ds = some r → ∀ (vs : List Value) (w : World) (G : Nat → Nat), vs.length = ds.length → (∀ (j : Nat) d v, ds[j]? = some d → vs[j]? = some v → Rep w (Gh.base G) d v) → (∀ b, w.heap.size ≤ b → G b = 0) →
   r.calmR = true ∧ Calls P f vs.toArray w fun e c => ∃ v G', e = .returned v ∧ Below w.heap.size w c ∧ (∀ b, c.heap.size ≤ b → G' b = 0) ∧ (∀ b, b < w.heap.size → G' b = G b) ∧ Rep c (Gh.base G') r v) : (Ac F).ok P f := by
 refine ⟨ga, fun ds m m' fr _ => rfl, ?_⟩
 intro B w0 w m g fr ds vs r u hi q hl k z
 simp only [Ac] at z
 split at z
 ·rename_i x
  rw [Qx] at z
  obtain ⟨r', hr, z⟩ := z
  simp only [QU] at z
  obtain ⟨rfl, rfl⟩ := z
  have y : ∀ (j : Nat) d v, (ds.map D.un)[j]? = some d → vs[j]? = some v → Rep w (Gh.base g.G) d v := by
   intro j d v p t
   have n := Q9.1 x d (QS p)
   rw [Q7, Qx] at p
   obtain ⟨s, ra, rfl⟩ := p
   exact (k j s v ra t).un.calm_to n (fun _ _ => rfl) (fun _ => Qe _)
  obtain ⟨ta, n⟩ := h _ _ hr vs w g.G (by rw [Qr]; exact hl) y hi.gz
  refine n.mono ?_
  rintro e c ⟨v, G', rfl, o, hz, ho, hR⟩
  have a : ∀ b, (g.glue w G').G b = G' b := by
   grind [Gh.glue]
  refine ⟨v, g.glue w G', rfl, hi.glue o hz, Hr.glue hi.gz o, ?_, fun i hf _ => hf⟩
  exact hR.calmR_to ta (fun _ _ => rfl) (fun b => by rw [a]; exact Qe _)
 ·cases z
def Em{P:Program}{f:FuncId}{F:List D->Option D}(n:(Ac F).ok P f){ds:List D}{r:D}(hF:F ds=some r)(t:ds.all D.calm=true)(ca:ds.map D.un=ds){vs:List Value}{w:World}{G:Nat->Nat}
  (hl:vs.length=ds.length) (k:∀(j:Nat) d v,ds[j]?=some d->vs[j]?=some v->Rep w (Gh.base G) d v) (y:∀b,w.heap.size<=b->G b=0):
  Calls P f vs.toArray w λe m=>∃v q,e= .returned v∧Below w.heap.size w m∧Rep m q r v:=by
 have z:Hi P w.heap.size w (λ_ _=>none) w (Gh.base G):=
  ⟨Below.refl _ _,Qe _,y,λ_ _=>rfl,λi b h=>XX,λi a b h=>XX,λi o d h=>Xd,λi e h=>Xd,λi a e e' b x x' h=>Xd,λi s p h=>Xd,λi a s p c p' b x x' h=>Xd⟩
 refine(n.run (fr:=[0]) (ds:=ds) (r:=r) (u:=[]) z (λi _=>⟨λ_=>rfl,rfl,rfl⟩) hl k ?_).mono ?_
 ·grind [Ac]
 ·rintro e m ⟨v,q,rfl,g⟩;exact⟨v,q,rfl,g.inv.below,g.rep⟩
def IF{P:Program}{f:FuncId}{F:List D->Option D}(da:(Ac F).ok P f){ds:List D}{r:D}(t:F ds=some r)(c:ds.all (λd=>match d with| .str _| .int _ _| .bool _=>true|_=>false)=true)(w:World):
  Calls P f (ds.map plV).toArray w λe w'=>∃v q,e= .returned v∧Below w.heap.size w w'∧Rep w' q r v:=by
 have u:∀d∈ds,d.calm=true∧d.un=d∧∀w g,Rep w g d (plV d):=by
  intro d p;have:=Q9.1 c d p;cases d with
  |str s=>exact⟨rfl,rfl,λw g=> .str s⟩
  |int k n=>exact⟨rfl,rfl,λw g=> .int k n⟩
  |bool b=>exact⟨rfl,rfl,λw g=> .bool b⟩
  |_=>cases this
 refine Em da t (Q9.2 λd p=>(u d p).1) ?_ (G:=λ_=>0) U (λj d v p m=>?_) (λ_ _=>rfl)
 ·conv=>rhs;rw[←List.map_id ds]
  exact List.map_congr_left λd p=>(u d p).2.1
 ·grind
def L7:∀l:List Bs,flat (strsD l)=strsD l
 |[]=>rfl
 |s::l=>by
  show(D.str s).cells++flat (strsD l)=_;rw[L7 l];rfl
def iM{w:World}{g:Gh}{nl:Bool}{t:Id}{l:List Bs}{v:Value}(h:Rep w g (.slice nl t (strsD l)) v):
  ∃y c,v= .slice y l.length c∧∀j s,l[j]?=some s->∃a,y=some a∧w.cell? (a.add j)=some (encStr s):=by
 rcases h.slice_inv with ⟨_,f,rfl⟩|⟨_,ad,n,c,sz,b,rfl,r,z,p,m,e,x,r7,i,r9⟩
 ·have:l=[]:=by cases l with|nil=>rfl|cons=>cases f
  subst this;exact⟨none,0,rfl,λj s h=>Xd⟩
 ·rw[AT]at r;subst r;refine⟨some ad,c,rfl,λj s q=>⟨ad,rfl,?_⟩⟩;have u:j<l.length:=(Qy.1 q).1;have k:sz=1:=(p (.str s) (Qp.2 ⟨s,QS q,rfl⟩)).symm;subst k;have o:=x j (.str s) (by rw[L7];simp[strsD,q]);rw[m j O];cases hv:b j<;>rw[hv]at o<;>cases o;rfl
def MD{w:World}{B e n b c:Nat}{ys:List Bs}{g:Gh}(h:w.ownsRow B e 1 (.slice (some ⟨b,0,none⟩) n c) n (ys.map encStr))(a:n<=g.G b):Rep w g (.slice false [] (strsD ys)) (.slice (some ⟨b,0,none⟩) n c):=by
 have r:ys.length=n:=by simpa using h.1
 have y:n<=c:=by
  rcases h.2 with ⟨f,_⟩|⟨x,cap,cur,m,_,_,v,_⟩
  ·cases f
  ·cases m;exact v
 refine .slice [] _ ⟨b,0,none⟩ n c 1 (λj=>encStr (ys.getD j [])) (by rw[AT,r]) y (λd p=>?_) (λj q=>?_) (λj q=>rfl) (λj d p=>?_) (λ_=>Xa) (λh=>absurd rfl h) (λd p=>?_)
 ·obtain⟨s,_,rfl⟩:=Qp.1 p;rfl
 ·have o:j<ys.length:=by omega
  exact h.cells rfl j _ (by simp[Qz,o])
 ·rw[L7]at p;simp only[strsD,Q7,Qx]at p;obtain⟨s,i,rfl⟩:=p;have:ys.getD j []=s:=by simp[Qz,i]
  rw[this];exact .str s
 ·obtain⟨s,_,rfl⟩:=Qp.1 p;rfl
end Go.Vd
namespace Go.Vd
open Go.Proofs Go.RowKit Go.Sort Go.Shelf
def Gn(z:Bs)(l:List Bs):List Bs:=l.filterMap λs=>if(Ck s z).2=true then some (Ck s z).1 else none
def Tv(z s:Bs)(l:List Bs):Gn z (s::l)=if(Ck s z).2=true then(Ck s z).1::Gn z l else Gn z l:=by
 grind [Gn]
def aNH(w:World)(c:List Bs)(e:Ending)(m:World):Prop:=
 ∃v,e= .returned v∧Below w.heap.size w m∧((v= .slice none 0 0∧c=[])∨(c≠[]∧∃g cap,v= .slice (some ⟨g,0,none⟩) (Lib.compact (c.mergeSort λx y=>decide (x<=y))).length cap∧w.heap.size<=g∧g<m.heap.size∧
  m.ownsRow w.heap.size 9 1 v (Lib.compact (c.mergeSort λx y=>decide (x<=y))).length ((Lib.compact (c.mergeSort λx y=>decide (x<=y))).map encStr)))
def aBu{w s:World}{g cap n nn q:Nat}{os:Array Obj}{c:List (List UInt8)}(ra:s.ownsRow w.heap.size 9 1 (.slice (some ⟨g,0,none⟩) n cap) n (c.map encStr))(m:Below w.heap.size w s)(u:w.heap.size<=g)(v:c.length=n)(e:c≠[]):
  aNH w c (.returned (.slice (some ⟨g,0,none⟩) (Lib.compact (c.mergeSort λx y=>decide (x<=y))).length cap))
   (putRow encStr (Sort.ahead (grow (putRow encStr (Sort.ahead s nn) g 0 (c.mergeSort λx y=>decide (x<=y)).toArray) os) q) g 0 (Lib.compact (c.mergeSort λx y=>decide (x<=y))++Zy (n-(Lib.compact (c.mergeSort λx y=>decide (x<=y))).length) []).toArray):=by
 have a:(c.mergeSort λx y=>decide (x<=y)).length=c.length:=Qs c;have ta:=Lib.compact_length_le (c.mergeSort λx y=>decide (x<=y));subst v;rcases ra.2 with ⟨h0,_⟩|⟨g',ma,cur,hv,r,o,t,f,i,p⟩
 ·cases h0
 cases hv;have hs:=ownsRow_sorted (n:=nn) (os:=os) (ts:=c.mergeSort λx y=>decide (x<=y)) a r o t f i;have z:=Lib.ownsRow_putRow (q:=q) (k:=(Lib.compact (c.mergeSort λx y=>decide (x<=y))).length) (ys:=Lib.compact (c.mergeSort λx y=>decide (x<=y))++Zy (c.length-(Lib.compact (c.mergeSort λx y=>decide (x<=y))).length) []) hs Xb O;rw[List.take_left]at z;exact⟨_,rfl,Lib.below_putRow (m.grown (grownBy_sorted _) m.size (λj b=>by cases b;exact r)) u,.inr ⟨e,g,cap,rfl,u,(z.lt g rfl).2,z⟩⟩
def kL:(Tryz.prog.info? 9).map (λi=>(i.zero,i.size,i.bytes))=some (some (.string ByteArray.empty),1,16):=Z
def jE(v:Value):v.ownBlock=none∨v.ownBlock≠none:=Classical.em _
def B7{B:Nat}{w m:World}(h:Below B w m)(v:w.heap.size<=B)(row:Option Nat)(g:w.heap.size<=m.heap.size):w.grownBy m row:=⟨h.os,h.tape,h.output,g,λk s _=>h.block k O⟩
def EV{w s:World}{a:Addr}{v:Value}(o:Below w.heap.size w s)(h:w.cell? a=some v):s.cell? a=some v:=(o.cell (World.block_lt_of_cell? _ _ h)).trans h
def lB{α:Type}{l:List α}{j:Nat}{x:α}(h:l[j]?=some x):l.drop j=x::l.drop (j+1):=by
 obtain⟨u,rfl⟩:=Qy.1 h;exact List.drop_eq_getElem_cons u
def aWl(w:World)(aa:Bs)(l:List Bs)(ao:Option Addr)(c:Nat)(hl:l.length<=2000)
  (ka:∀j s,l[j]?=some s->∃a,ao=some a∧w.cell? (a.add j)=some (encStr s))
  (r:∀s∈l,∀w,Calls Qc 271 #[encStr s,encStr aa] w λe w'=>e= .returned (.tuple #[encStr (Ck s aa).1,.bool (Ck s aa).2])∧Below w.heap.size w w'):
  Calls Qc 217 #[encStr aa,.slice ao l.length c] w (aNH w (Gn aa l)):=by
 obtain⟨i0,hi,hx⟩:=Qx.1 kL;simp only[QU]at hx;obtain⟨ha,xa,ra⟩:=hx;have HC:Aside (∀j s,l[j]?=some s->∃a,ao=some a∧w.cell? (a.add j)=some (encStr s)):=ka;have H2:Aside (∀s∈l,∀w,Calls Qc 271 #[encStr s,encStr aa] w λe w'=>e= .returned (.tuple #[encStr (Ck s aa).1,.bool (Ck s aa).2])∧Below w.heap.size w w'):=r;clear ka r;generalize sa:encStr aa=vt at *;generalize hn:l.length=n at *
 go_enter func217,ntmps217
 go_wp2_with fail
 go_loopg [5,12] n (λg s5 v wx=>∃(k:Nat)(ks:List Bs),k+g=n∧v= .int .i64 k∧Aside (ks++Gn aa (l.drop k)=Gn aa l)∧ks.length<=k∧
  wx.ownsRow w.heap.size 9 1 s5 ks.length (ks.map encStr)∧Aside (s5= .slice none 0 0↔ks=[])∧Below w.heap.size w wx)
 case atStart=>exact⟨0,[],O,rfl,rfl,Qe _,World.ownsRow_nil _ _ _ _,ZU (λ_=>rfl) (λ_=>rfl),Below.refl _ _⟩
 case round=>
  obtain⟨k,ks,oa,rfl,HI,ma,ba,ua,ga⟩:=hrel;cases gk with
  |zero=>
   have da:¬((k:Int)<(n:Int)):=O
   have HK:Aside (ks=Gn aa l):=by
    have:=HI.out;rw[Q8 O]at this;show ks=_;simpa[Gn]using this
   by_cases wa:ks=[]
   ·subst wa;have e0:u5= .slice none 0 0:=ua.out.2 rfl;subst e0;clear ua
    go_wp2_with (first
     |(go_at_call 268;refine(Any.slices_Sort_string_none aT none 0 _).mono ?_;rintro e w2 ⟨rfl,rfl⟩)
     |(go_at_call 272;refine(Any.slices_Compact_string_empty aY none 0 _).mono ?_;rintro e w3 ⟨rfl,rfl⟩))
    go_ret
    exact⟨_,rfl,ga,.inl ⟨rfl,HK.out.symm⟩⟩
   ·have ja:u5≠ .slice none 0 0:=λe=>wa (ua.out.1 e)
    obtain⟨g0,h,rfl,u,qa,fa,eb,ca,hH⟩:=Lib.holds_of_ownsRow ba ja;have m:Calls Qc 268 #[.slice (some ⟨g0,0,none⟩) ks.length h] wr λe w'=>e= .returned (.tuple #[])∧∃n os,w'=grow (putRow encStr (Sort.ahead wr n) g0 0 (ks.mergeSort λx y=>decide (x<=y)).toArray) os:=Any.slices_Sort_string aT g0 0 h ks wr hH qa O
    have o:∀nn os,Calls Qc 272 #[.slice (some ⟨g0,0,none⟩) ks.length h] (grow (putRow encStr (Sort.ahead wr nn) g0 0 (ks.mergeSort λx y=>decide (x<=y)).toArray) os) λe w'=>
      e= .returned (.slice (some ⟨g0,0,none⟩) (Lib.compact (ks.mergeSort λx y=>decide (x<=y))).length h)∧∃q,w'=putRow encStr (Sort.ahead (grow (putRow encStr (Sort.ahead wr nn) g0 0 (ks.mergeSort λx y=>decide (x<=y)).toArray) os) q) g0 0 (Lib.compact (ks.mergeSort λx y=>decide (x<=y))++Zy (ks.length-(Lib.compact (ks.mergeSort λx y=>decide (x<=y))).length) []).toArray:=λnn os=>by
     have pa:(ks.mergeSort λx y=>decide (x<=y)).length=ks.length:=Qs ks;have va:Go.Sort.Holds encStr (grow (putRow encStr (Sort.ahead wr nn) g0 0 (ks.mergeSort λx y=>decide (x<=y)).toArray) os) g0 0 (ks.mergeSort λx y=>decide (x<=y)).toArray:=
      holds_grow encStr _ os g0 0 _ (by simpa[putRow,mapBlock,Sort.ahead]using qa) (holds_putRow encStr _ g0 0 _ _ (holds_ahead encStr wr nn g0 0 _ hH) U)
     have:=Any.slices_Compact_string aY g0 0 h (ks.mergeSort λx y=>decide (x<=y)) _ va O O;rw[pa]at this;exact this
    have X:Aside (wr.ownsRow w.heap.size 9 1 (.slice (some ⟨g0,0,none⟩) ks.length h) ks.length (ks.map encStr)∧Below w.heap.size w wr):=⟨ba,ga⟩;clear ba ga hH ua ja
    go_wp2_with (first
     |(go_at_call 268;refine m.mono ?_;rintro e w2 ⟨rfl,nn,os,rfl⟩)
     |(go_at_call 272;refine(o _ _).mono ?_;rintro e w3 ⟨rfl,q,rfl⟩))
    go_ret
    rw[←HK.out];exact aBu X.out.1 X.out.2 u rfl wa
  |succ g=>
   have da:(k:Int)<(n:Int):=O
   obtain⟨s,hs⟩:∃s,l[k]?=some s:=⟨_,Qd O⟩;obtain⟨a,rfl,ia⟩:=HC.out k s hs;have z:wr.cell? (a.add k)=some (encStr s):=EV ga ia;have hd:Aside (l.drop k=s::l.drop (k+1)):=lB hs;have c2:=H2.out s (QS hs) wr;clear hs ia;have la:=ga.size;generalize t:encStr s=vs at *;cases hb:(Ck s aa).2 with
   |true=>
    rw[hb]at c2;generalize hp:(Ck s aa).1=p at c2;have d:Aside (Gn aa (l.drop k)=p::Gn aa (l.drop (k+1))):=by
     show _=_;rw[hd.out,Tv,if_pos hb,hp]
    clear hp hb
    go_wp2_with (first
     |(go_at_call 271;refine c2.mono ?_;rintro e w2 ⟨rfl,na⟩;have ta:=na.size;have b:=ba.kept (B7 na (Qe _) none ta) (jE _))
     |(at_builtin;refine wpList_append_own _ rfl _ _ 23 rfl w.heap.size 9 i0 (.string ByteArray.empty) 1 16 underlying23 hi ha xa ra rfl V _ _ _ rfl (b.alloc _) ⟨w2.heap.size,0,none⟩ 1 1 [encStr p] rfl rfl (cell_one_new _ _ _) (λx hx=>by simp at hx;subst hx;rfl) Xp O Xb ?_;intro v' w3 ea f i))
    go_roundg g
    case measure=>omega
    case rel=>exact⟨k+1,ks++[p],O,Xz,Yj,Xb,by simpa using ea,by show _↔_;rw[i];simp,
      ((ga.grown (B7 na (Qe _) none ta) la (λj hj=>by cases hj)).alloc O _).grown f Xb (λj hj=>(b.lt j hj).1)⟩
   |false=>
    rw[hb]at c2;generalize hp:(Ck s aa).1=p at c2;have d:Aside (Gn aa (l.drop k)=Gn aa (l.drop (k+1))):=by
     show _=_;rw[hd.out,Tv,if_neg (by rw[hb];decide)]
    clear hp hb
    go_wp2_with (first
     |(go_at_call 271;refine c2.mono ?_;rintro e w2 ⟨rfl,na⟩;have ta:=na.size;have b:=ba.kept (B7 na (Qe _) none ta) (jE _)))
    go_roundg g
    case measure=>omega
    case rel=>exact⟨k+1,ks,O,Xz,X3,O,b,ua,ga.grown (B7 na (Qe _) none ta) la (λj hj=>by cases hj)⟩
abbrev pB(b:Nat):Value:= .pointer (some ⟨b,0,none⟩)
section
variable(w0:World)(bg bs bt b4:Nat)(l:List Tk)(ao:Option Addr)(c:Nat)
structure Hk (w:World) (vg:Value) (xs:List Bs):Prop where
 own:w.ownsRow w0.heap.size 9 1 vg xs.length (xs.map encStr)
 g:w.heap[bg]?=some (.cells #[vg] 23 (0,0))
 s:w.heap[bs]?=some (.cells #[.slice ao l.length c] 31 (0,0))
 t:w.heap[bt]?=some (.cells #[.func (.func 267) #[] #[pB bg,pB bs,pB bt]] 325 (0,0))
 nl:vg= .slice none 0 0↔xs=[]
 r:w.heap[b4]?=some (.cells #[.slice none 0 0] 31 (0,0))
 below:Below w0.heap.size w0 w
theorem NI{w:World}{B e j n b:Nat}{v:Value}{xs:List Value}{cs:Array Value}{T:TypeId}{fr:Nat×Nat}(h:w.ownsRow B e j v n xs)(o:w.heap[b]?=some (.cells cs T fr))(x:T≠e):some b≠v.ownBlock:=by
 rcases h.2 with ⟨rfl,_⟩|⟨g,cap,cur,rfl,_,a,_⟩
 ·intro h;cases h
 ·intro h;simp only[Value.ownBlock,Qt]at h;subst h;rw[o]at a;simp only[Qt,Obj.cells.injEq]at a;exact x a.2.1
variable{w0 bg bs bt b4 l ao c}
def Hk.app{w w3:World}{vg v':Value}{xs:List Bs}{o:Obj}{name:Bs}(u:w0.heap.size<=bg)(T:Hk w0 bg bs bt b4 l ao c w vg xs)(ra:w3.ownsRow w0.heap.size 9 1 v' (xs.length+1) (xs.map encStr++[encStr name]))(ia:(w.alloc o).grownBy w3 vg.ownBlock)(na:v'= .slice none 0 0↔vg= .slice none 0 0∧(1:Nat)=0):
  ∃g cap,v'= .slice (some ⟨g,0,none⟩) (xs.length+1) cap∧w3.cell? ⟨bg,0,none⟩=some vg∧w3.frozen? ⟨bg,0,none⟩=false∧(w3.setCell ⟨bg,0,none⟩ v').cell? ⟨bs,0,none⟩=some (.slice ao l.length c)∧Hk w0 bg bs bt b4 l ao c (w3.setCell ⟨bg,0,none⟩ v') v' (xs++[name]):=by
 have hl:∀{b:Nat} {cs:Array Value} {T:TypeId},w.heap[b]?=some (.cells cs T (0,0))->T≠9->w3.heap[b]?=some (.cells cs T (0,0)):=λ{b cs Ty} f hT=>by
  have n:b<w.heap.size:=(Qv.1 f).1;rw[ia.block b Xb (NI T.own f hT),heap_alloc_old w o n];exact f
 have v:=hl T.g V;have s1:=hl T.s V;have t1:=hl T.t V;have r1:=hl T.r V;have x:v'≠ .slice none 0 0:=λe=>by have:=(na.1 e).2;omega
 rcases ra.2 with ⟨m,_⟩|⟨g,cap,cur,hv,j,f,q,y,i,p⟩
 ·exact absurd m x
 have a:g≠bg:=λe=>by
  subst e;rw[v]at f;simp only[Qt,Obj.cells.injEq]at f;exact absurd f.2.1 V
 have z:∀k,k≠bg->(w3.setCell ⟨bg,0,none⟩ v').heap[k]?=w3.heap[k]?:=λk hk=>heap_setCell_other w3 ⟨bg,0,none⟩ k _ hk
 have ta:bs≠bg:=λe=>by have:=T.s;rw[e,T.g]at this;simp at this
 have xa:bt≠bg:=λe=>by have:=T.t;rw[e,T.g]at this;simp at this
 have d:b4≠bg:=λe=>by have:=T.r;rw[e,T.g]at this;simp at this
 have s2:(w3.setCell ⟨bg,0,none⟩ v').heap[bs]?=some (.cells #[.slice ao l.length c] 31 (0,0)):=(z bs ta).trans s1;refine⟨g,cap,hv,by simp[World.cell?,v],by simp[World.frozen?,v],by simp[World.cell?,s2],⟨?_,?_,s2,(z bt xa).trans t1,⟨λe=>absurd e x,λe=>by simp at e⟩,(z b4 d).trans r1,?_⟩⟩
 ·refine⟨U,.inr ⟨g,cap,cur,by rw[hv];simp,j,?_,Xt,y,i,Xw⟩⟩;rw[z g a];exact f
 ·rw[heap_setCell_same w3 bg 0 _ _ _ v];rfl
 ·exact((T.below.alloc T.below.size o).grown ia (by have:=T.below.size;simp;omega) (λk hk=>(T.own.lt k hk).1)).setCell u _
def aD1(a:Addr)(n j:Nat):(a.add n).add j=a.add (n+j):=by
 unfold Addr.add;by_cases u:n=0
 ·subst u;simp
 ·grind
def fU(w0:World)(G:Nat->Nat)(l:List Tk)(y:Option Addr):Prop:=∀j k,l[j]?=some k->∃a s f z,y=some a∧w0.cell? (a.add (j*3))=some (encStr k.1)∧w0.cell? (a.add (j*3+1))=some (encStr k.2.1)∧w0.cell? (a.add (j*3+2))=some (.slice s f z)∧Rep w0 (Gh.base G) (.slice k.2.2.1 [] (As k.2.2.2)) (.slice s f z)
def fU.load{G:Nat->Nat}{w:World}{j:Nat}{k:Tk}(h:fU w0 G l ao)(o:Below w0.heap.size w0 w)(q:l[j]?=some k):∃a s f z,ao=some a∧w.cell? (a.add (j*3))=some (encStr k.1)∧w.cell? ⟨(a.add (j*3)).block,(a.add (j*3)).off+1,none⟩=some (encStr k.2.1)∧w.cell? ⟨(a.add (j*3)).block,(a.add (j*3)).off+2,none⟩=some (.slice s f z)∧Rep w0 (Gh.base G) (.slice k.2.2.1 [] (As k.2.2.2)) (.slice s f z):=by
 obtain⟨a,s,f,z,e,c1,p,r,v⟩:=h j k q;have n:∀i,i≠0->(⟨(a.add (j*3)).block,(a.add (j*3)).off+i,none⟩:Addr)=a.add (j*3+i):=λi hi=>by
  rw[←aD1];generalize a.add (j*3)=b;unfold Addr.add;rw[if_neg hi]
 refine⟨a,s,f,z,e,EV o c1,?_,?_,v⟩
 ·rw[n 1 V];exact EV o p
 ·rw[n 2 V];exact EV o r
def L5(l:List Tk)(t:Tk)(s:Bs):B6 (t::l) s=if t.2.1=s∧t.1≠s then t.1::B6 l s else B6 l s:=by
 grind [B6]
def Hk.alloc{w:World}{z:Value}{xs:List Bs}(T:Hk w0 bg bs bt b4 l ao c w z xs)(o:Obj):Hk w0 bg bs bt b4 l ao c (w.alloc o) z xs:=
 have hl:∀{b:Nat} {x:Obj},w.heap[b]?=some x->(w.alloc o).heap[b]?=some x:=λ{b x} h=>by
  rw[heap_alloc_old w o (Qv.1 h).1];exact h
 ⟨T.own.alloc o,hl T.g,hl T.s,hl T.t,T.nl,hl T.r,T.below.alloc T.below.size o⟩
def aRr(hg:w0.heap.size<=bg)(hl:l.length<=1000){G:Nat->Nat}(hT:fU w0 G l ao)(name:Bs)(m:Bs->List Bs)(w:World)(vg:Value)(xs:List Bs)
  (b:∀t∈l,t.2.1=name->t.1≠name->∀w vg ys,Hk w0 bg bs bt b4 l ao c w vg ys->ys.length+(m t.1).length<=1000->Calls Qc 267 #[encStr t.1,pB bg,pB bs,pB bt] w λe w'=>e= .returned (.tuple #[])∧∃n,Hk w0 bg bs bt b4 l ao c w' n (ys++m t.1))
  (v:xs.length+1+((B6 l name).flatMap m).length<=1000) (T:Hk w0 bg bs bt b4 l ao c w vg xs):
  Calls Qc 267 #[encStr name,pB bg,pB bs,pB bt] w λe w'=>e= .returned (.tuple #[])∧∃n,Hk w0 bg bs bt b4 l ao c w' n (xs++name::(B6 l name).flatMap m):=by
 obtain⟨i0,hi,s⟩:=Qx.1 kL;simp only[QU]at s;obtain⟨ha,xa,ra⟩:=s;have C1:w.cell? ⟨bg,0,none⟩=some vg:=by simp[World.cell?,T.g]
 have C3:w.frozen? ⟨bg,0,none⟩=false:=by simp[World.frozen?,T.g]
 have la:xs.length<1000:=O
 have ya:w0.heap.size<=w.heap.size:=T.below.size;have TT:Aside (Hk w0 bg bs bt b4 l ao c w vg xs):=T;have HT:Aside (fU w0 G l ao):=hT;have HS:Aside (∀t∈l,t.2.1=name->t.1≠name->∀w vg ys,Hk w0 bg bs bt b4 l ao c w vg ys->ys.length+(m t.1).length<=1000->Calls Qc 267 #[encStr t.1,pB bg,pB bs,pB bt] w λe w'=>e= .returned (.tuple #[])∧∃n,Hk w0 bg bs bt b4 l ao c w' n (ys++m t.1)):=b;have HL:Aside (xs.length+1+((B6 l name).flatMap m).length<=1000):=v;have r:=T.own;clear T v b hT
 go_enter func267,ntmps267
 go_wp2_with (first
  |(
   at_builtin;refine wpList_append_own _ rfl _ _ 23 rfl w0.heap.size 9 i0 (.string ByteArray.empty) 1 16 underlying23 hi ha xa ra rfl V _ _ _ rfl (r.alloc _) ⟨w.heap.size,0,none⟩ 1 1 [encStr name] rfl rfl (cell_one_new _ _ _) (λx s=>by simp at s;subst s;rfl) Xp O Xb ?_;intro v' w3 ea f i
   obtain⟨g2,p,rfl,D1,D2,D3,T2⟩:=TT.out.app hg ea f i;have T3:Aside (Hk w0 bg bs bt b4 l ao c (w3.setCell ⟨bg,0,none⟩ (.slice (some ⟨g2,0,none⟩) (xs.length+1) p)) (.slice (some ⟨g2,0,none⟩) (xs.length+1) p) (xs++[name])):=T2;clear i ea f T2))
 go_loopg [14] l.length (λg q wx=>∃(k:Nat)(ys:List Bs)(vy:Value),k+g=l.length∧q= .int .i64 k∧Aside (ys++(B6 (l.drop k) name).flatMap m=xs++name::(B6 l name).flatMap m)∧Aside (Hk w0 bg bs bt b4 l ao c wx vy ys))
 case atStart=>exact⟨0,xs++[name],_,O,rfl,by show _=_;simp,T3⟩
 case round=>
  obtain⟨k,ys,vy,oa,rfl,HI,TY⟩:=hrel;cases gk with
  |zero=>
   have da:¬((k:Int)<(l.length:Int)):=O
   go_wp2_with fail
   go_end0
   refine⟨rfl,vy,?_⟩;have:=HI.out;rw[Q8 O]at this;rw[←this];simpa[B6]using TY.out
  |succ g=>
   have da:(k:Int)<(l.length:Int):=O
   obtain⟨t,hs⟩:∃t,l[k]?=some t:=⟨_,Qd O⟩;obtain⟨a,ro,rn,rc,rfl,c1,c2,c3,_⟩:=HT.out.load TY.out.below hs;have hd:Aside (l.drop k=t::l.drop (k+1)):=lB hs;have qa:t∈l:=QS hs;by_cases u:t.2.1=name
   ·by_cases y:t.1=name
    ·have d:Aside (B6 (l.drop k) name=B6 (l.drop (k+1)) name):=by
      show _=_;rw[hd.out,L5,if_neg (λh=>h.2 y)]
     go_wp2_with fail
     go_roundg g
     case measure=>omega
     case rel=>exact⟨k+1,ys,vy,O,Xz,X3,TY.out.alloc _⟩
    ·have d:Aside (B6 (l.drop k) name=t.1::B6 (l.drop (k+1)) name):=by
      show _=_;rw[hd.out,L5,if_pos ⟨u,y⟩]
     have ab:∀o,Calls Qc 267 #[encStr t.1,pB bg,pB bs,pB bt] (wr.alloc o) λe w'=>e= .returned (.tuple #[])∧∃n,Hk w0 bg bs bt b4 l (some a) c w' n (ys++m t.1):=λo=>
      HS.out t qa u y _ vy ys (TY.out.alloc o) (by
       have h3:=congrArg ZT HI.out;rw[d.out]at h3;have h4:=HL.out;simp only[ZF,Qh,Qb]at h3;omega)
     have j:(t.1==name)=false:=XQ
     have F:∀o,(wr.alloc o).cell? ⟨bt,0,none⟩=some (.func (.func 267) #[] #[pB bg,pB bs,pB bt]):=λo=>by simp[World.cell?,(TY.out.alloc o).t]
     go_wp2_with (go_at_call 267;refine(ab _).mono ?_;rintro e w' ⟨rfl,vz,TZ⟩)
     go_roundg g
     case measure=>omega
     case rel=>exact⟨k+1,ys++m t.1,vz,O,Xz,Yj,TZ⟩
   ·have d:Aside (B6 (l.drop k) name=B6 (l.drop (k+1)) name):=by
     show _=_;rw[hd.out,L5,if_neg (λh=>u h.1)]
    have z:(t.2.1==name)=false:=XS
    go_wp2_with fail
    go_roundg g
    case measure=>omega
    case rel=>exact⟨k+1,ys,vy,O,Xz,X3,TY.out.alloc _⟩
def Hk.kept{w m:World}{z:Value}{xs:List Bs}{row:Option Nat}(T:Hk w0 bg bs bt b4 l ao c w z xs)(h:w.grownBy m row)(j:∀(b:Nat) cs q,w.heap[b]?=some (.cells cs q (0,0))->q≠107->some b≠row)(v:∀k,row=some k->w0.heap.size<=k):Hk w0 bg bs bt b4 l ao c m z xs:=by
 have hl:∀{b:Nat} {cs:Array Value} {T:TypeId},w.heap[b]?=some (.cells cs T (0,0))->T≠107->m.heap[b]?=some (.cells cs T (0,0)):=λ{b cs q} o x=>by
  rw[h.block b (Qv.1 o).1 (j b cs q o x)];exact o
 refine⟨T.own.kept h ?_,hl T.g V,hl T.s V,hl T.t V,T.nl,hl T.r V,T.below.grown h T.below.size v⟩;rcases T.own.2 with ⟨rfl,_⟩|⟨g,cap,cur,rfl,_,o,_⟩
 ·exact .inl rfl
 ·exact .inr (j g cur 9 o V)
def Hk.sorted{w:World}{vg:Value}{xs:List Bs}(T:Hk w0 bg bs bt b4 l ao c w vg xs)(q:xs≠[]):∃g cap,vg= .slice (some ⟨g,0,none⟩) xs.length cap∧g<w.heap.size∧Go.Sort.Holds encStr w g 0 xs.toArray∧
  ∀nn os,Hk w0 bg bs bt b4 l ao c (grow (putRow encStr (Sort.ahead w nn) g 0 (xs.mergeSort λx y=>decide (x<=y)).toArray) os) vg (xs.mergeSort λx y=>decide (x<=y)):=by
 have ga:vg≠ .slice none 0 0:=λe=>q (T.nl.1 e)
 have a:(xs.mergeSort λx y=>decide (x<=y)).length=xs.length:=Qs xs;rcases T.own.2 with ⟨m,_⟩|⟨g,cap,cur,hv,j,o,u,f,i,p⟩
 ·exact absurd m ga
 refine⟨g,cap,hv,(Qv.1 o).1,Go.holds_of_block o Xw,λnn os=>?_⟩;have z:=Go.grownBy_sorted (w:=w) (g:=g) (n:=nn) (os:=os) (xs.mergeSort λx y=>decide (x<=y)).toArray;have hl:∀{b:Nat} {cs:Array Value} {T:TypeId},w.heap[b]?=some (.cells cs T (0,0))->T≠9->(grow (putRow encStr (Sort.ahead w nn) g 0 (xs.mergeSort λx y=>decide (x<=y)).toArray) os).heap[b]?=some (.cells cs T (0,0)):=λ{b cs Ty} hc v=>by
  rw[z.block b (Qv.1 hc).1 (λe=>by
   have:=NI T.own hc v;rw[hv]at this;exact this e)];exact hc
 refine⟨?_,hl T.g V,hl T.s V,hl T.t V,⟨λe=>absurd e ga,λe=>?_⟩,hl T.r V,T.below.grown z T.below.size (λk hk=>by cases hk;exact j)⟩
 ·rw[hv,a];exact Go.ownsRow_sorted a j o u f i
 ·grind
def aJ1(q:w0.heap.size<=bg)(hl:l.length<=1000){G:Nat->Nat}(x:fU w0 G l ao){r:Bs->Nat}(T:HV l r):∀(f:Nat)(name:Bs),l.length<=r name+f->∀(w:World)(z:Value)(xs:List Bs),Hk w0 bg bs bt b4 l ao c w z xs->xs.length+(D8 l f name).length<=1000->
  Calls Qc 267 #[encStr name,pB bg,pB bs,pB bt] w λe m=>e= .returned (.tuple #[])∧∃n,Hk w0 bg bs bt b4 l ao c m n (xs++D8 l f name)
 |0,name,hr,w,z,xs,h,hlen=>by
  have s:B6 l name=[]:=by
   cases hc:B6 l name with
   |nil=>rfl
   |cons a t=>have:=IQ T (show a∈B6 l name by rw[hc];exact Qo ..);omega
  have:=aRr q hl x name (λ_=>[]) w z xs (λt g u y=>by
   have i:=T.up t g;have p:=T.top t g;rw[u]at i;omega) (by rw[s];simpa[D8]using hlen) h
  rw[s]at this;exact this
 |f+1,name,hr,w,z,xs,h,hlen=>by
  refine aRr q hl x name (D8 l f) w z xs (λt g u y w z ys o b=>?_) (by simp only[D8,Qb]at hlen;omega) h;have i:=T.up t g;rw[u]at i;exact aJ1 q hl x T f t.1 O w z ys o b
end
def aHz:(Tryz.prog.info? 107).map (λi=>(i.zero,i.size,i.bytes))=some (some (.agg #[.string ByteArray.empty,.string ByteArray.empty,.slice none 0 0]),3,56):=Z
def tkV(p:Tk×Value):List Value:=[encStr p.1.1,encStr p.1.2.1,p.2]
def xB(w:World)(a b c:Value)(t:TypeId):∀j u,[a,b,c][j]?=some u->(w.alloc (.cells #[a,b,c] t)).cell? ((⟨w.heap.size,0,none⟩:Addr).add j)=some u:=by
 intro j u q
 match j,q with
 |0,q=>simp at q;subst q;simp[Addr.add]
 |1,q=>simp at q;subst q;simp[Addr.add]
 |2,q=>simp at q;subst q;simp[Addr.add]
def SV{w i:World}{a b:Obj}(h:Below ((w.alloc a).alloc b).heap.size ((w.alloc a).alloc b) i):i.heap[w.heap.size]?=some a∧i.heap[w.heap.size+1]?=some b∧Below w.heap.size w i∧w.heap.size+2<=i.heap.size:=by
 have j:(w.alloc a).heap.size=w.heap.size+1:=QZ _;have y:((w.alloc a).alloc b).heap.size=w.heap.size+2:=(QZ _).trans (by rw[j]);have n:(w.alloc a).heap[w.heap.size]?=some a:=heap_alloc_new w a;have m:((w.alloc a).alloc b).heap[w.heap.size]?=some a:=by rw[heap_alloc_old _ _ O];exact n
 have s:((w.alloc a).alloc b).heap[w.heap.size+1]?=some b:=by have:=heap_alloc_new (w.alloc a) b;rwa [j]at this
 exact⟨by rw[h.block _ O];exact m,by rw[h.block _ O];exact s,(((Below.refl _ w).alloc (Qe _) _).alloc O _).trans (h.mono O),by have:=h.size;omega⟩
def Ef{w:World}{b:Nat}{v:Value}{T:TypeId}(h:w.heap[b]?=some (.cells #[v] T (0,0))):w.cell? ⟨b,0,none⟩=some v:=by simp[World.cell?,h]
def pT{w:World}{b:Nat}{v:Value}{T:TypeId}(h:w.heap[b]?=some (.cells #[v] T (0,0))):w.frozen? ⟨b,0,none⟩=false:=by simp[World.frozen?,h]
def aRt(w:World)(l:List Tk)(y:Option Addr)(c:Nat)(name:Bs)(q:Int)
  (r:∀s,Below w.heap.size w s->Calls Qc 40 #[.agg #[.slice y l.length c],encStr name] s λe m=>e= .returned (.tuple #[.int .i64 q,.bool false])∧Below s.heap.size s m):
  Calls Qc 214 #[.agg #[.slice y l.length c],encStr name] w λe m=>e= .returned (.tuple #[.agg #[.slice y l.length c],.slice none 0 0,.int .i64 6])∧Below w.heap.size w m:=by
 go_enter func214,ntmps214
 go_wp2_with fail
 refine(r _ (((Below.refl _ w).alloc (Qe _) _).alloc U _)).mono ?_;rintro e i ⟨rfl,na⟩;obtain⟨u,z,n,p⟩:=SV na;have x:i.cell? ⟨w.heap.size,0,none⟩=some (.slice y l.length c):=by simp[World.cell?,u]
 have t:i.cell? ⟨w.heap.size+1,0,none⟩=some (.slice none 0 0):=by simp[World.cell?,z]
 have o:i.frozen? ⟨w.heap.size+1,0,none⟩=false:=by simp[World.frozen?,z]
 have k:∀v,(i.setCell ⟨w.heap.size+1,0,none⟩ v).cell? ⟨w.heap.size+1,0,none⟩=some v:=λv=>World.cell?_setCell_same' _ _ _ (by rw[t];rfl)
 go_wp2_with fail
 refine bodyPost_ret (v:= .tuple #[.agg #[.slice y l.length c],.slice none 0 0,.int .i64 6]) (by simp[results,results214,go_sem,k]) rfl ⟨rfl,n.setCell U _⟩
def CB(l:List Tk)(gone:List Bs):List Tk:=l.filter λt=>!Gq gone t.1
def Rj(t:Tk)(l:List Tk)(gone:List Bs):CB (t::l) gone=if Gq gone t.1=true then CB l gone else t::CB l gone:=by
 grind [CB,Gq]
def Ow{w:World}{B e j n b:Nat}{v u:Value}{xs:List Value}(h:w.ownsRow B e j v n xs)(t:some b≠v.ownBlock):(w.setCell ⟨b,0,none⟩ u).ownsRow B e j v n xs:=by
 refine⟨h.1,?_⟩;rcases h.2 with h|⟨g,cap,cur,rfl,q,y,i⟩
 ·exact .inl h
 ·refine .inr ⟨g,cap,cur,rfl,q,?_,i⟩;rw[heap_setCell_other _ _ _ _ (λe=>t (congrArg some (show b=g from e.symm)))];exact y
def iK{w i:World}{l:List Tk}{y:Option Addr}{c:Nat}(u:i.heap[w.heap.size]?=some (.cells #[.slice y l.length c] 31 (0,0)))(z:i.heap[w.heap.size+1]?=some (.cells #[.slice none 0 0] 31 (0,0)))(n:Below w.heap.size w i)(p:w.heap.size+2<=i.heap.size):
  Hk w i.heap.size w.heap.size (i.heap.size+1) (w.heap.size+1) l y c ((i.alloc (Obj.cells #[Value.slice none 0 0] 23)).alloc (Obj.cells #[Value.func (Fn.func 267) #[] #[pB i.heap.size,pB w.heap.size,pB (i.heap.size+1)]] 325)) (.slice none 0 0) []:=by
 have j:(i.alloc (Obj.cells #[Value.slice none 0 0] 23)).heap.size=i.heap.size+1:=QZ _;have q:∀o {k:Nat} {x:Obj},i.heap[k]?=some x->((i.alloc (Obj.cells #[Value.slice none 0 0] 23)).alloc o).heap[k]?=some x:=λo k x h=>by
  have s:=(Qv.1 h).1;rw[heap_alloc_old _ _ O,heap_alloc_old _ _ s];exact h
 refine⟨World.ownsRow_nil _ _ _ _,?_,q _ u,?_,⟨λ_=>rfl,λ_=>rfl⟩,q _ z,(n.alloc O _).alloc O _⟩
 ·rw[heap_alloc_old _ _ O];exact heap_alloc_new _ _
 ·have:=heap_alloc_new (i.alloc (Obj.cells #[Value.slice none 0 0] 23)) (Obj.cells #[Value.func (Fn.func 267) #[] #[pB i.heap.size,pB w.heap.size,pB (i.heap.size+1)]] 325)
  rwa [j]at this
def aRs(w:World)(G:Nat->Nat)(l:List Tk)(ao:Option Addr)(c:Nat)(name:Bs)(q:Int)(r:Bs->Nat)(hl:l.length<=900)(hT:fU w G l ao)(T:HV l r)
  (fa:∀wx,Below w.heap.size w wx->Calls Qc 40 #[.agg #[.slice ao l.length c],encStr name] wx λe w'=>e= .returned (.tuple #[.int .i64 q,.bool true])∧Below wx.heap.size wx w')
  (i:∀(wx:World)(v:Value)(ys:List Bs)(s:Bs),wx.ownsRow w.heap.size 9 1 v ys.length (ys.map encStr)->ys≠[]->ys.length<=1000->(v= .slice none 0 0↔ys=[])->Calls Qc 269 #[v,encStr s] wx λe w'=>e= .returned (.bool (Gq ys s))∧Below wx.heap.size wx w'):
  Calls Qc 214 #[.agg #[.slice ao l.length c],encStr name] w λe w'=>∃gv lv ps,e= .returned (.tuple #[.agg #[lv],gv,.int .i64 0])∧Below w.heap.size w w'∧
   w'.ownsRow w.heap.size 9 1 gv (D8 l l.length name).length (((D8 l l.length name).mergeSort λx y=>decide (x<=y)).map encStr)∧gv≠ .slice none 0 0∧
   w'.ownsRow w.heap.size 107 3 lv ps.length (ps.flatMap tkV)∧(lv= .slice none 0 0↔ps=[])∧ps.map (·.1)=CB l ((D8 l l.length name).mergeSort λx y=>decide (x<=y))∧
   ∀p∈ps,Rep w (Gh.base G) (.slice p.1.2.2.1 [] (As p.1.2.2.2)) p.2:=by
 obtain⟨i0,hi,hx⟩:=Qx.1 aHz;simp only[QU]at hx;obtain⟨ha,xa,ra⟩:=hx;have ma:=qE T l.length name;have wa:D8 l l.length name≠[]:=by cases l.length<;>simp[D8]
 go_enter func214,ntmps214
 go_wp2_with fail
 refine(fa _ (((Below.refl _ w).alloc (Qe _) _).alloc U _)).mono ?_;rintro e w2 ⟨rfl,na⟩;obtain⟨x1,x2,x3,x4⟩:=SV na;clear na;have D0:((w2.alloc (Obj.cells #[Value.slice none 0 0] 23)).alloc (Obj.cells #[Value.nilFunc] 325)).heap[w2.heap.size+1]?=some (Obj.cells #[Value.nilFunc] 325):=by
  have:=heap_alloc_new (w2.alloc (Obj.cells #[Value.slice none 0 0] 23)) (Obj.cells #[Value.nilFunc] 325)
  rwa [show(w2.alloc (Obj.cells #[Value.slice none 0 0] 23)).heap.size=w2.heap.size+1 from QZ _]at this
 have D1:((w2.alloc (Obj.cells #[Value.slice none 0 0] 23)).alloc (Obj.cells #[Value.nilFunc] 325)).cell? ⟨w2.heap.size+1,0,none⟩=some Value.nilFunc:=Ef D0;have D2:((w2.alloc (Obj.cells #[Value.slice none 0 0] 23)).alloc (Obj.cells #[Value.nilFunc] 325)).frozen? ⟨w2.heap.size+1,0,none⟩=false:=pT D0
 go_wp2_with fail
 have T0:=iK x1 x2 x3 x4;refine(aJ1 O O hT T l.length name O _ _ _ T0 Xb).mono ?_;rintro e w3 ⟨rfl,v3,T3⟩;clear T0 D0 D1 D2;rw[QC]at T3;generalize hD:D8 l l.length name=ds at *;obtain⟨g,cap,rfl,db,hH,T4⟩:=T3.sorted wa;have E1:w3.cell? ⟨w2.heap.size,0,none⟩=some (.slice (some ⟨g,0,none⟩) ds.length cap):=Ef T3.g;have m:Calls Qc 268 #[.slice (some ⟨g,0,none⟩) ds.length cap] w3 λe w'=>e= .returned (.tuple #[])∧∃n os,w'=grow (putRow encStr (Sort.ahead w3 n) g 0 (ds.mergeSort λx y=>decide (x<=y)).toArray) os:=Any.slices_Sort_string aT g 0 cap ds w3 hH db O
 go_wp2_with fail
 refine m.mono ?_;rintro e w4 ⟨rfl,nn,os,bb⟩;replace T4:=T4 nn os;rw[←bb]at T4;clear m bb T3 hH E1;have pa:(ds.mergeSort λx y=>decide (x<=y)).length=ds.length:=Qs ds;have va:(ds.mergeSort λx y=>decide (x<=y))≠[]:=λe=>by rw[e]at pa;exact wa (Zc pa.symm)
 generalize ta:(ds.mergeSort λx y=>decide (x<=y))=ss at *;have E2:w4.cell? ⟨w.heap.size,0,none⟩=some (.slice ao l.length c):=Ef T4.s;have HT:Aside (fU w G l ao):=hT;have H2:Aside (∀(wx:World)(v:Value)(ys:List Bs)(s:Bs),wx.ownsRow w.heap.size 9 1 v ys.length (ys.map encStr)->ys≠[]->ys.length<=1000->(v= .slice none 0 0↔ys=[])->Calls Qc 269 #[v,encStr s] wx λe w'=>e= .returned (.bool (Gq ys s))∧Below wx.heap.size wx w'):=i;clear hT i fa;generalize sa:ds.length=n at *
 go_wp2_with fail
 go_loopg [11,32] l.length (λgg ka cb wx=>∃(k:Nat)(ps:List (Tk×Value)),k+gg=l.length∧cb= .int .i64 k∧ps.length<=k∧Aside (ps.map (·.1)++CB (l.drop k) ss=CB l ss)∧
  wx.ownsRow w.heap.size 107 3 ka ps.length (ps.flatMap tkV)∧Aside (ka= .slice none 0 0↔ps=[])∧Aside (∀p∈ps,Rep w (Gh.base G) (.slice p.1.2.2.1 [] (As p.1.2.2.2)) p.2)∧
  Aside (Hk w w2.heap.size w.heap.size (w2.heap.size+1) (w.heap.size+1) l ao c wx (.slice (some ⟨g,0,none⟩) n cap) ss))
 case atStart=>exact⟨0,[],O,rfl,Qe _,rfl,World.ownsRow_nil _ _ _ _,ZU (λ_=>rfl) (λ_=>rfl),(by show ∀p∈([]:List (Tk×Value)),_;intro p hp;cases hp),T4⟩
 case round=>
  obtain⟨k,ps,oa,rfl,qa,HI,ba,ua,HR,TY⟩:=hrel;have ya:=TY.out.below.size;cases gk with
  |zero=>
   have da:¬((k:Int)<(l.length:Int)):=O
   have G1:wr.cell? ⟨w2.heap.size,0,none⟩=some (.slice (some ⟨g,0,none⟩) n cap):=Ef TY.out.g;have G2:wr.cell? ⟨w.heap.size+1,0,none⟩=some (.slice none 0 0):=Ef TY.out.r;have G3:wr.frozen? ⟨w.heap.size+1,0,none⟩=false:=pT TY.out.r;have G0:w.heap.size+1≠w2.heap.size:=O
   have G4:∀v,(wr.setCell ⟨w.heap.size+1,0,none⟩ v).cell? ⟨w2.heap.size,0,none⟩=some (.slice (some ⟨g,0,none⟩) n cap):=λv=>(World.cell?_setCell_other _ _ _ _ (λe=>G0 (congrArg Addr.block e))).trans G1
   have G5:∀v,(wr.setCell ⟨w.heap.size+1,0,none⟩ v).cell? ⟨w.heap.size+1,0,none⟩=some v:=λv=>World.cell?_setCell_same' _ _ _ (by rw[G2];rfl)
   obtain⟨lo,ln,lc,rfl⟩:∃lo ln lc,u11= .slice lo ln lc:=by
    rcases ba.2 with ⟨h,_⟩|⟨_,_,_,h,_⟩<;>exact⟨_,_,_,h⟩
   go_wp2_with fail
   go_region
   all_goals (
    go_wp2_with fail
    have aa:=Ow (u:= .slice lo ln lc) ba (NI ba TY.out.r V);have ga:=Ow (u:= .slice lo ln lc) TY.out.own (NI TY.out.own TY.out.r V);have ja:=TY.out.below.setCell (p:=⟨w.heap.size+1,0,none⟩) U (.slice lo ln lc);refine bodyPost_ret (v:= .tuple #[.agg #[.slice lo ln lc],.slice (some ⟨g,0,none⟩) n cap,.int .i64 0]) (by simp[results,results214,go_sem,G5]) rfl ⟨_,_,ps,rfl,⟨ja.os,ja.tape,ja.output,ja.size,ja.block⟩,?_,U,aa,ua.out,?_,HR.out⟩
    ·rw[pa]at ga;rw[hD,ta,sa];exact ga
    ·have:=HI.out;rw[Q8 O]at this;rw[hD,ta,←this];simp[CB])
  |succ gg=>
   have da:(k:Int)<(l.length:Int):=O
   obtain⟨t,hs⟩:∃t,l[k]?=some t:=⟨_,Qd O⟩;obtain⟨a,ro,rn,rc,rfl,c1,c2,c3,c4⟩:=HT.out.load TY.out.below hs;have hd:Aside (l.drop k=t::l.drop (k+1)):=lB hs;have la:∀o,Calls Qc 269 #[.slice (some ⟨g,0,none⟩) n cap,encStr t.1] (wr.alloc o) λe w'=>e= .returned (.bool (Gq ss t.1))∧Below (wr.alloc o).heap.size (wr.alloc o) w':=λo=>
    H2.out _ _ ss t.1 (TY.out.alloc o).own va O ⟨λe=>by simp at e,λe=>absurd e va⟩
   have E3:∀o,(wr.alloc o).cell? ⟨w2.heap.size,0,none⟩=some (.slice (some ⟨g,0,none⟩) n cap):=λo=>Ef (TY.out.alloc o).g
   have C4:Aside (Rep w (Gh.base G) (.slice t.2.2.1 [] (As t.2.2.2)) (.slice ro rn rc)):=c4;clear c4 hs
   go_wp2_with fail
   refine(la _).mono ?_;rintro e w5 ⟨rfl,ga⟩;generalize ho:Obj.cells #[encStr t.1,encStr t.2.1,.slice ro rn rc] 107 (0,0)=ob at *;have ia:=ga.size;have ab:(wr.alloc ob).heap.size=wr.heap.size+1:=QZ _;have T5:Aside (Hk w w2.heap.size w.heap.size (w2.heap.size+1) (w.heap.size+1) l (some a) c w5 (.slice (some ⟨g,0,none⟩) n cap) ss):=
    (TY.out.alloc ob).kept (B7 ga (Qe _) none ia) (λ_ _ _ _ _ h=>Xc) (λ_ h=>Xc)
   have f:=(ba.alloc ob).kept (B7 ga (Qe _) none ia) (jE _);have F0:w5.heap[wr.heap.size]?=some ob:=by rw[ga.block _ O];exact heap_alloc_new _ _
   subst ho;have F1:w5.cell? ⟨wr.heap.size,0,none⟩=some (encStr t.1):=Yf
   have F2:w5.cell? ⟨wr.heap.size,1,none⟩=some (encStr t.2.1):=Yf
   have F3:w5.cell? ⟨wr.heap.size,2,none⟩=some (.slice ro rn rc):=Yf
   clear la E3 ga F0;cases hb:Gq ss t.1 with
   |true=>
    have d:Aside (CB (l.drop k) ss=CB (l.drop (k+1)) ss):=by show _=_;rw[hd.out,Rj,if_pos hb]
    clear hb
    go_wp2_with fail
    go_roundg gg
    case measure=>omega
    case rel=>exact⟨k+1,ps,O,Xz,O,X3,f,ua,HR,T5⟩
   |false=>
    have d:Aside (CB (l.drop k) ss=t::CB (l.drop (k+1)) ss):=by show _=_;rw[hd.out,Rj,if_neg (by rw[hb];decide)]
    clear hb
    go_wp2_with (at_builtin;refine wpList_append_own _ rfl _ _ 29 rfl w.heap.size 107 i0 (.agg #[.string ByteArray.empty,.string ByteArray.empty,.slice none 0 0]) 3 56 underlying29 hi ha xa ra rfl V _ _ _ rfl (f.alloc _) ⟨w5.heap.size,0,none⟩ 1 1 [encStr t.1,encStr t.2.1,.slice ro rn rc] rfl rfl (xB _ _ _ _ _) (λx hx=>by simp at hx;rcases hx with rfl|rfl|rfl<;>rfl) Xp O Xb ?_;intro v' w6 ea z ca)
    have za:(w5.alloc (Obj.cells #[encStr t.1,encStr t.2.1,.slice ro rn rc] 107 (0,0))).heap.size=w5.heap.size+1:=QZ _;have T6:Aside (Hk w w2.heap.size w.heap.size (w2.heap.size+1) (w.heap.size+1) l (some a) c w6 (.slice (some ⟨g,0,none⟩) n cap) ss):=
     (T5.out.alloc _).kept z (λb cs Ty hb hT=>NI (f.alloc _) hb hT) (λj hj=>(f.lt j hj).1)
    go_roundg gg
    case measure=>omega
    case rel=>exact⟨k+1,ps++[(t,.slice ro rn rc)],O,Xz,Xb,Yj,by simpa[tkV]using ea,by show _↔_;rw[ca];simp,(by
      show ∀p∈_,_;intro p hp;rcases QH.1 hp with h|h
      ·exact HR.out p h
      ·rw[Zg.1 h];exact C4.out),T6⟩
def Gc{w s:World}{G:Nat->Nat}{d:D}{v:Value}(h:Rep w (Gh.base G) d v)(z:d.calm=true)(j:∀b,w.heap.size<=b->G b=0)(o:Below w.heap.size w s){G':Nat->Nat}(a:∀b,b<w.heap.size->G b<=G' b):Rep s (Gh.base G') d v:=
 h.calm_to z (λp c=>by
  have u:p.block<w.heap.size:=by
   grind [Gh.base]
  exact o.cell u) (λb=>by
  rcases ZR b w.heap.size with h|h
  ·exact a b h
  ·show G b<=_;rw[j b h];exact Qf _)
def sW{w:World}{G:Nat->Nat}{nl:Bool}{t:Id}{l:List Tk}{v:Value}(h:Rep w (Gh.base G) (.slice nl t (AJ l)) v):∃a c,v= .slice a l.length c∧fU w G l a:=by
 rcases h.slice_inv with ⟨_,f,rfl⟩|⟨_,ad,n,c,sz,r,rfl,g,z,p,r4,r5,r6,r7,r8,r9⟩
 ·have:l=[]:=by cases l with|nil=>rfl|cons=>cases f
  subst this;exact⟨none,0,rfl,λj s h=>Xd⟩
 ·rw[show(AJ l).length=l.length from Qr ..]at g;subst g;refine⟨some ad,c,rfl,λj k q=>?_⟩;have u:j<l.length:=(Qy.1 q).1;have la:sz=3:=(p (PP k) (Qp.2 ⟨k,QS q,rfl⟩)).symm;subst la;have y:l[j]=k:=(Qy.1 q).2;have x:∀i,i<3->(flat (AJ l))[j*3+i]?=(PP k).cells[i]?:=λi hi=>by
   rw[Er p (by simpa[AJ]using u) hi];simp[AJ,y]
  have o:=(r6 _ _ ((x 0 V).trans rfl)).str_inv;have e1:=(r6 _ _ ((x 1 V).trans rfl)).str_inv;have m:=r6 _ _ ((x 2 V).trans rfl);obtain⟨e,b,ev,_⟩:=m.len_slice;rw[ev]at m;exact⟨ad,e,_,b,rfl,by rw[r4 _ O];exact congrArg some o,by rw[r4 _ O];exact congrArg some e1,by rw[r4 _ O,ev],m⟩
def Rz{w:World}{g:Gh}:∀(ps:List (Tk×Value))(_:∀p∈ps,Rep w g (.slice p.1.2.2.1 [] (As p.1.2.2.2)) p.2)(j:Nat)(d:D),(flat (AJ (ps.map (·.1))))[j]?=some d->∃v,(ps.flatMap tkV)[j]?=some v∧v.oneCell'=true∧Rep w g d v
 |[],_,j,d,h=>by simp[AJ,flat]at h
 |p::ps,hp,j,d,h=>by
  have e:flat (AJ ((p::ps).map (·.1)))=[D.str p.1.1,D.str p.1.2.1,D.slice p.1.2.2.1 [] (As p.1.2.2.2)]++flat (AJ (ps.map (·.1))):=rfl;rw[e]at h;rw[ZF];have x:=hp p (Qo ..)
  match j,h with
  |0,h=>cases h;exact⟨_,rfl,rfl,.str _⟩
  |1,h=>cases h;exact⟨_,rfl,rfl,.str _⟩
  |2,h=>
   cases h;refine⟨p.2,rfl,?_,x⟩;obtain⟨_,_,ev,_⟩:=x.len_slice;rw[ev];rfl
  |j+3,h=>exact Rz ps (λq n=>hp q (Qu _ n)) j d h
def aGN{w:World}{B e:Nat}{r:Value}{ps:List (Tk×Value)}{g:Gh}(h:w.ownsRow B e 3 r ps.length (ps.flatMap tkV))(na:r= .slice none 0 0↔ps=[])(k:∀p∈ps,Rep w g (.slice p.1.2.2.1 [] (As p.1.2.2.2)) p.2)(a:∀b,r.ownBlock=some b->ps.length*3<=g.G b):Rep w g (.slice (decide (ps.map (·.1)=[])) [] (AJ (ps.map (·.1)))) r:=by
 rcases h.2 with ⟨f,u⟩|⟨b,c,cur,m,_,_,za,_⟩
 ·have:=na.1 f;subst this;subst f;exact .nils _
 ·have x:ps≠[]:=λe=>by rw[na.2 e]at m;cases m
  have o:=a b (by rw[m];rfl);rw[decide_eq_false (by simpa using x)];have y:=h;subst m;refine .slice [] _ ⟨b,0,none⟩ ps.length c 3 (λj=>(ps.flatMap tkV).getD j .nilFunc) (by simp[AJ]) za (λd t=>?_) (λj q=>?_) (λj q=>?_) (λj d t=>?_) (λ_=>Xa) (λh=>absurd rfl h) (λd t=>?_)
  ·obtain⟨s,_,rfl⟩:=Qp.1 t;rfl
  ·have sa:j<(ps.flatMap tkV).length:=by rw[h.1];exact q
   exact y.cells rfl j _ (by simp only[Qz];rw[Qd sa];rfl)
  ·have z:j<(flat (AJ (ps.map (·.1)))).length:=by
    rw[Cl (sz:=3) (λd t=>by obtain⟨s,_,rfl⟩:=Qp.1 t;rfl)];simpa[AJ]using q
   obtain⟨v,l,n,_⟩:=Rz ps k j _ (Qd z);simp only[Qz,l,Q4];exact n
  ·obtain⟨v,l,_,i⟩:=Rz ps k j d t;simp only[Qz,l,Q4];exact i
  ·obtain⟨s,_,rfl⟩:=Qp.1 t;rfl
def Tb(s z:Bs):(Dc s z).length<=s.length:=by
 grind [Dc]
def iR(l:List Bs):List Bs:=l.mergeSort λx y=>decide (x<=y)
def qU(z:Bs)(l:List Bs):List Bs:=Lib.compact (iR (Gn z l))
def cD(p:Bs×Bool×List Bs):List D:=[.str p.1,.slice p.2.1 [] (strsD p.2.2)]
theorem tD{a b:List Bs}(h:strsD a=strsD b):a=b:=by
 unfold strsD at h;exact List.map_inj_right (λx y e=>by cases e;rfl) |>.1 h
def uP(x y)(h:cD x=cD y):x=y:=by
 grind [cD,tD]
def SN:List D->Option D:=FX cD (λp=>p.2.2.length<=2000∧∀s∈p.2.2,s.length<=1000000) λp=> .slice (decide (Gn p.1 p.2.2=[])) [] (strsD (qU p.1 p.2.2))
def aJj{z:Bs}{nl:Bool}{l:List Bs}(h:l.length<=2000)(g:∀s∈l,s.length<=1000000):SN [.str z,.slice nl [] (strsD l)]=some (.slice (decide (Gn z l=[])) [] (strsD (qU z l))):=
 B3 (mk:=cD) (a:=(z,nl,l)) uP ⟨h,g⟩
def aSR:Kq SN 217:=by
 refine IJ ⟨_,func217,Z,Z⟩ λds r hF vs w G hl k j=>⟨?_,?_⟩
 ·obtain⟨p,_,_,rfl⟩:=Dl hF;rfl
 ·obtain⟨⟨z,nl,l⟩,⟨y,i⟩,rfl,rfl⟩:=Dl hF;simp only at y i
  match vs,hl with
  |[v0,v1],_=>
   have e0:=(k 0 _ v0 rfl rfl).str_inv;subst e0;obtain⟨u,c,rfl,q⟩:=iM (k 1 _ v1 rfl rfl);refine(aWl w z l u c y q (λs a w=>?_)).mono ?_
   ·refine(IF aT7 (aIS s z (i s a) (Tb s z)) rfl w).mono ?_;rintro e w' ⟨v,x,rfl,o,hR⟩;refine⟨?_,o⟩;obtain⟨us,rfl,ja,n⟩:=hR.tup_inv
    match us,ja with
    |[u0,u1],_=>
     rw[(n 0 _ u0 rfl rfl).str_inv,(n 1 _ u1 rfl rfl).bool_inv]
   ·rintro e w' ⟨v,rfl,o,⟨rfl,t⟩|⟨t,g,cap,rfl,m,f,ra⟩⟩
    ·refine⟨_,G,rfl,o,λb h=>j b (QG o.size h),λ_ _=>rfl,?_⟩;have e:qU z l=[]:=by unfold qU iR;rw[t,List.mergeSort_nil];rfl
     rw[e,decide_eq_true t];exact .nils _
    ·refine⟨_,λb=>if b<w.heap.size then G b else if b=g then(qU z l).length else 0,rfl,o,λb h=>?_,λb h=>if_pos h,?_⟩
     ·grind
     ·rw[decide_eq_false t];exact MD ra (by simp only[Gh.base];rw[if_neg O,if_pos trivial];exact Qe _)
def Cf(l:List Tk)(s:Bs):List Bs:=iR (D8 l l.length s)
def Tn(p:Bool×List Tk×Bs):List D:=[.agg [.slice p.1 [] (AJ p.2.1)],.str p.2.2]
def Tm(x y)(h:Tn x=Tn y):x=y:=by
 grind [Tn,WA]
def IE(p:Bool×List Tk×Bs):D:=if A4 p.2.1 p.2.2=false then .tup [.agg [.slice p.1 [] (AJ p.2.1)],.slice true [] (strsD []),.int .i64 6]
 else .tup [.agg [.slice (decide (CB p.2.1 (Cf p.2.1 p.2.2)=[])) [] (AJ (CB p.2.1 (Cf p.2.1 p.2.2)))],.slice false [] (strsD (Cf p.2.1 p.2.2)),.int .i64 0]
def Sl:List D->Option D:=FX Tn (λp=>p.2.1.length<=900∧∃r,HV p.2.1 r) IE
def aJk{nl:Bool}{l:List Tk}{s:Bs}{r:Bs->Nat}(h:l.length<=900)(j:HV l r)(k:A4 l s=false):Sl [.agg [.slice nl [] (AJ l)],.str s]=some (.tup [.agg [.slice nl [] (AJ l)],.slice true [] (strsD []),.int .i64 6]):=by
 have:=B3 (mk:=Tn) (ok:=λp=>p.2.1.length<=900∧∃r,HV p.2.1 r) (res:=IE) (a:=(nl,l,s)) Tm ⟨h,r,j⟩;rw[show IE (nl,l,s)=_ from if_pos k]at this;exact this
def aFk{nl:Bool}{l:List Tk}{s:Bs}{r:Bs->Nat}(h:l.length<=900)(j:HV l r)(k:A4 l s=true):Sl [.agg [.slice nl [] (AJ l)],.str s]=some (.tup [.agg [.slice (decide (CB l (Cf l s)=[])) [] (AJ (CB l (Cf l s)))],.slice false [] (strsD (Cf l s)),.int .i64 0]):=by
 have:=B3 (mk:=Tn) (ok:=λp=>p.2.1.length<=900∧∃r,HV p.2.1 r) (res:=IE) (a:=(nl,l,s)) Tm ⟨h,r,j⟩;rw[show IE (nl,l,s)=_ from if_neg (by rw[k];decide)]at this;exact this
def aSS:Kq Sl 214:=by
 refine IJ ⟨_,func214,Z,Z⟩ λds r hF vs w G hl ea ba=>⟨?_,?_⟩
 ·obtain⟨p,_,_,rfl⟩:=Dl hF;unfold IE;split<;>rfl
 ·obtain⟨⟨nl,l,s⟩,⟨ca,rk,hT⟩,rfl,rfl⟩:=Dl hF;simp only at ca hT
  match vs,hl with
  |[v0,v1],_=>
   have e1:=(ea 1 _ v1 rfl rfl).str_inv;subst e1;have sa:=ea 0 _ v0 rfl rfl;obtain⟨us,rfl,ja,x,hu⟩:=aI sa
   match us,ja with
   |[u0],_=>
    have oa:=hu 0 _ u0 rfl rfl;obtain⟨ao,c,rfl,ha⟩:=sW oa;have z:∀wx,Below w.heap.size w wx->Calls Qc 40 #[.agg #[.slice ao l.length c],encStr s] wx λe w'=>e= .returned (.tuple #[.int .i64 (LB l s:Int),.bool (A4 l s)])∧Below wx.heap.size wx w':=λwx hb=>by
     refine(Em (vs:=[.agg #[.slice ao l.length c],encStr s]) (G:=G) aAV (Oi (nl:=nl) (t:=[]) (l:=l) (s:=s) O) rfl rfl rfl (λj d v hd hv=>?_) (λb h=>ba b (QG hb.size h))).mono ?_
     ·match j,hd,hv with
      |0,hd,hv=>cases hd;cases hv;exact Gc sa rfl ba hb (λ_ _=>Qe _)
      |1,hd,hv=>cases hd;cases hv;exact .str _
     ·rintro e w' ⟨v,g',rfl,ua,hR⟩;refine⟨?_,ua⟩;obtain⟨us,rfl,ja,hu⟩:=hR.tup_inv
      match us,ja with
      |[u0,u1],_=>rw[(hu 0 _ u0 rfl rfl).int_inv,(hu 1 _ u1 rfl rfl).bool_inv]
    cases hf:A4 l s with
    |false=>
     rw[hf]at z;refine(aRt w l ao c s _ z).mono ?_;rintro e w' ⟨rfl,hb⟩;refine⟨_,G,rfl,hb,λb h=>ba b (QG hb.size h),λ_ _=>rfl,?_⟩;rw[show IE (nl,l,s)=_ from if_pos hf];refine .tup _ [_,_,_] rfl (λj d v hd hv=>?_)
     match j,hd,hv with
     |0,hd,hv=>cases hd;cases hv;exact Gc sa rfl ba hb (λ_ _=>Qe _)
     |1,hd,hv=>cases hd;cases hv;exact .nils _
     |2,hd,hv=>cases hd;cases hv;exact .int _ _
    |true=>
     rw[hf]at z;have i:∀(wx:World)(v:Value)(ys:List Bs)(n:Bs),wx.ownsRow w.heap.size 9 1 v ys.length (ys.map encStr)->ys≠[]->ys.length<=1000->(v= .slice none 0 0↔ys=[])->Calls Qc 269 #[v,encStr n] wx λe w'=>e= .returned (.bool (Gq ys n))∧Below wx.heap.size wx w':=λwx v ys n ho ga ta na=>by
      obtain⟨g,cap,rfl,m,f,_⟩:=Lib.holds_of_ownsRow ho (λe=>ga (na.1 e));refine(Em (vs:=[.slice (some ⟨g,0,none⟩) ys.length cap,encStr n]) (G:=λb=>if b=g then ys.length else 0) aT8 (aIT (nl:=false) (l:=ys) n O) rfl rfl rfl (λj d v hd hv=>?_) (λb h=>if_neg O)).mono ?_
      ·match j,hd,hv with
       |0,hd,hv=>cases hd;cases hv;exact MD ho (by simp[Gh.base])
       |1,hd,hv=>cases hd;cases hv;exact .str _
      ·rintro e w' ⟨v,g',rfl,ua,hR⟩;exact⟨by rw[hR.bool_inv],ua⟩
     refine(aRs w G l ao c s _ rk ca ha hT z i).mono ?_;rintro e w' ⟨gv,lv,ps,rfl,hb,a,va,q,u,ia,o⟩;have pa:(Cf l s).length=(D8 l l.length s).length:=Qs _;rw[←pa]at a;obtain⟨gb,cap,rfl,m,f,_⟩:=Lib.holds_of_ownsRow a va;have da:=q.lt;rw[show IE (nl,l,s)=_ from if_neg (show ¬A4 l s=false by rw[hf];decide)];have ga:lv.ownBlock≠some gb:=λe=>by
      rcases a.2 with ⟨h0,_⟩|⟨g',ma,cur,hv,_,hh,_⟩
      ·cases h0
      ·grind [NI]
     have la:=hb.size
     let G':Nat->Nat:=λb=>if b<w.heap.size then G b else if b=gb then(Cf l s).length else if some b=lv.ownBlock then ps.length*3 else 0
     have y:∀b,b<w.heap.size->G' b=G b:=λb h=>if_pos h
     refine⟨_,G',rfl,hb,λb h=>?_,y,?_⟩
     ·grind
     ·refine .tup _ [_,_,_] rfl (λj d v hd hv=>?_)
      match j,hd,hv with
      |0,hd,hv=>
       cases hd;cases hv;refine .agg _ [lv] rfl (λv hv=>?_) (λj d v hd hv=>?_)
       ·rw[Zg.1 hv];rcases q.2 with ⟨h,_⟩|⟨_,_,_,h,_⟩<;>rw[h]<;>rfl
       ·match j,hd,hv with
        |0,hd,hv=>
         cases hd;cases hv;have:=aGN (g:=Gh.base G') q u (λp hp=>Gc (o p hp) rfl ba hb (λb h=>Nat.le_of_eq (y b h).symm)) (λb k=>by
          show _<=(if _ then _ else _);rw[if_neg (by have:=(da b k).1;omega),if_neg (λe=>ga (by rw[k,e])),if_pos k.symm];exact Qe _)
         rw[ia]at this;exact this
      |1,hd,hv=>
       cases hd;cases hv;exact MD a (by
        show _<=(if _ then _ else _);rw[if_neg O,if_pos rfl];exact Qe _)
      |2,hd,hv=>cases hd;cases hv;exact .int _ _
end Go.Vd
namespace Go.Vd
open Go.Proofs Go.RowKit
def aCO:=y2 f256 [] []
def aCW:=y2 f104 [] []
def aCS:=y2 f172 [] []
def aCR:=y2 f202 [] []
end Go.Vd
namespace Go.Vd
abbrev Kt:=List UInt8
abbrev Hp(a b:Kt):Bool:=Op.bytesLess a b
def Co:∀a:Kt,Hp a a=false
 |[]=>rfl
 |x::r=>by simp[Hp,Op.bytesLess];exact Co r
def L2:∀{a b:Kt},a≠b->Hp a b=!Hp b a
 |[],[],h=>absurd rfl h
 |[],y::s,_=>rfl
 |x::r,[],_=>rfl
 |x::r,y::s,h=>by
  simp only[Hp,Op.bytesLess];by_cases c:x=y
  ·have:=@L2 r s (by intro e;exact h (by rw[c,e]));simp only[Hp]at this;simp_all
  ·grind
def Ce:∀{a b c:Kt},Hp a b=true->Hp b c=true->Hp a c=true
 |a,b,[],h1,h2=>by simp[Hp,Op.bytesLess]at h2
 |a,[],z::t,h1,h2=>by cases a<;>simp[Hp,Op.bytesLess]at h1
 |[],y::s,z::t,h1,h2=>rfl
 |x::r,y::s,z::t,h1,h2=>by
  simp only[Hp,Op.bytesLess,Zt,QB,decide_eq_true_eq,beq_iff_eq]at h1 h2 ⊢;rcases h1 with h1|⟨rfl,h1⟩
  ·grind
  ·rcases h2 with h2|⟨rfl,h2⟩
   ·left;exact h2
   ·right;exact⟨rfl,@Ce r s t h1 h2⟩
def CT{a b:Kt}(h:Hp a b=true):Hp b a=false:=by
 by_cases e:a=b
 ·subst e;rw[Co]at h;cases h
 ·have:=L2 e;simp_all
inductive Tr where
 |nil
 |node (l:Tr) (k v:Kt) (r:Tr)
namespace Tr
def tall:Tr->Nat
 |nil=>0
 |node l _ _ r=>1+max l.tall r.tall
def cnt:Tr->Nat
 |nil=>0
 |node l _ _ r=>1+l.cnt+r.cnt
def wgt:Tr->Nat
 |nil=>0
 |node l k v r=>4+k.length+v.length+l.wgt+r.wgt
def lst:Tr->List (Kt×Kt)
 |nil=>[]
 |node l k v r=>l.lst++(k,v)::r.lst
def rotL:Tr->Tr
 |node l k v (node a x y b)=>node (node l k v a) x y b
 |t=>t
def rotR:Tr->Tr
 |node (node a x y b) k v r=>node a x y (node b k v r)
 |t=>t
def level(l:Tr)(k v:Kt)(r:Tr):Tr:=
 if r.tall+1<l.tall then
  match l with
  |node a x y b=>if a.tall<b.tall then rotR (node (rotL l) k v r)else rotR (node l k v r)
  |nil=>node l k v r
 else if l.tall+1<r.tall then
  match r with
  |node a x y b=>if b.tall<a.tall then rotL (node l k v (rotR r))else rotL (node l k v r)
  |nil=>node l k v r
 else node l k v r
def join(l:Tr)(k v:Kt)(r:Tr):Tr:=
 if r.tall+1<l.tall then
  match l with
  |node a x y b=>level a x y (join b k v r)
  |nil=>node l k v r
 else if l.tall+1<r.tall then
  match r with
  |node a x y b=>level (join l k v a) x y b
  |nil=>node l k v r
 else node l k v r
termination_by SizeOf.sizeOf l+SizeOf.sizeOf r
def put(k v:Kt):Tr->Tr
 |nil=>node nil k v nil
 |node l x y r=>if Hp k x then level (put k v l) x y r else if Hp x k then level l x y (put k v r)else node l k v r
def first:Tr->Kt->Kt->Tr->Kt×Kt×Tr
 |nil,k,v,r=>(k,v,r)
 |node a x y b,k,v,r=>let z:=first a x y b;(z.1,z.2.1,level z.2.2 k v r)
def both(l r:Tr):Tr:=
 match r with
 |nil=>l
 |node a x y b=>let z:=first a x y b;join l z.1 z.2.1 z.2.2
def split(q:Kt):Tr->Tr×Tr
 |nil=>(nil,nil)
 |node l x y r=>if Hp x q then let z:=split q r;(join l x y z.1,z.2)else let z:=split q l;(z.1,join z.2 x y r)
def get(q:Kt):Tr->Option Kt
 |nil=>none
 |node l x y r=>if Hp q x then get q l else if Hp x q then get q r else some y
def rank(q:Kt):Tr->Nat
 |nil=>0
 |node l x y r=>if Hp x q then 1+l.cnt+rank q r else rank q l
def at_:Tr->Nat->Option (Kt×Kt)
 |nil,_=>none
 |node l x y r,i=>if i<l.cnt then at_ l i else if l.cnt<i then at_ r (i-(l.cnt+1))else some (x,y)
def cG:∀t,(rotL t).lst=t.lst
 |nil=>rfl
 |node l k v nil=>rfl
 |node l k v (node a x y b)=>by simp[rotL,lst]
def cF:∀t,(rotR t).lst=t.lst
 |nil=>rfl
 |node nil k v r=>rfl
 |node (node a x y b) k v r=>by simp[rotR,lst]
def ER(l:Tr)(k v:Kt)(r:Tr):(level l k v r).lst=l.lst++(k,v)::r.lst:=by
 unfold level;split
 ·split
  ·split<;>simp[cF,lst,cG]
  ·rfl
 ·split
  ·split
   ·split<;>simp[cG,lst,cF]
   ·rfl
  ·rfl
def E9(l:Tr)(k v:Kt)(r:Tr):(join l k v r).lst=l.lst++(k,v)::r.lst:=by
 fun_induction join l k v r<;>simp_all [ER,lst]
def Gm:∀(l:Tr)(k v:Kt)(r:Tr),((first l k v r).1,(first l k v r).2.1)::(first l k v r).2.2.lst=l.lst++(k,v)::r.lst
 |nil,k,v,r=>rfl
 |node a x y b,k,v,r=>by
  have:=Gm a x y b;simp only[first,ER,lst];rw[←this];rfl
def cH(l r:Tr):(both l r).lst=l.lst++r.lst:=by
 unfold both;cases r with
 |nil=>simp[lst]
 |node a x y b=>
  have:=Gm a x y b;simp only[E9];rw[this];rfl
def Ord(l:List (Kt×Kt)):Prop:=l.Pairwise λa b=>Hp a.1 b.1=true
def oP{a b:List (Kt×Kt)}:Ord (a++b)↔Ord a∧Ord b∧∀x∈a,∀y∈b,Hp x.1 y.1=true:=List.pairwise_append
def US{a b:List (Kt×Kt)}{k v:Kt}(h:Ord (a++(k,v)::b)):Ord a∧Ord b∧(∀x∈a,Hp x.1 k=true)∧(∀x∈b,Hp k x.1=true):=by
 obtain⟨u,y,i⟩:=oP.1 h;have p:=QM.1 y;exact⟨u,p.2,λx q=>i x q _ Qo,λx q=>p.1 x q⟩
def Vc(l:List (Kt×Kt))(k v:Kt):List (Kt×Kt):=l.filter (λx=>Hp x.1 k)++(k,v)::l.filter (λx=>Hp k x.1)
def Ee{l:List (Kt×Kt)}{p:Kt×Kt->Bool}(h:∀x∈l,p x=true):l.filter p=l:=List.filter_eq_self.2 h
def GV{l:List (Kt×Kt)}{p:Kt×Kt->Bool}(h:∀x∈l,p x=false):l.filter p=[]:=Zs.2 λx q=>by rw[h x q];simp
def lst_put(k v:Kt):∀t:Tr,Ord t.lst->(put k v t).lst=Vc t.lst k v
 |nil,_=>rfl
 |node l x y r,h=>by
  obtain⟨u,f,i,p⟩:=US h;unfold put;split
  ·rename_i c;rw[ER,lst_put k v l u];have w:r.lst.filter (λx=>Hp x.1 k)=[]:=GV λz j=>CT (Ce c (p z j))
   have m:r.lst.filter (λx=>Hp k x.1)=r.lst:=Ee λz j=>Ce c (p z j)
   simp[Vc,lst,QY,Qi,c,CT c,w,m]
  ·split
   ·rename_i b c;rw[ER,lst_put k v r f];have w:l.lst.filter (λx=>Hp x.1 k)=l.lst:=Ee λz j=>Ce (i z j) c
    have m:l.lst.filter (λx=>Hp k x.1)=[]:=GV λz j=>CT (Ce (i z j) c)
    simp[Vc,lst,QY,Qi,c,CT c,w,m]
   ·rename_i b c;have e:k=x:=by
     by_cases e:k=x
     ·exact e
     ·have:=L2 e;simp_all
    subst e;have w:l.lst.filter (λx=>Hp x.1 k)=l.lst:=Ee i;have m:l.lst.filter (λx=>Hp k x.1)=[]:=GV λz j=>CT (i z j)
    have s:r.lst.filter (λx=>Hp x.1 k)=[]:=GV λz j=>CT (p z j)
    have q:r.lst.filter (λx=>Hp k x.1)=r.lst:=Ee p;simp[Vc,lst,QY,Qi,Co,w,m,s,q]
def lst_split(q:Kt):∀t:Tr,Ord t.lst->(split q t).1.lst=t.lst.filter (λx=>Hp x.1 q)∧(split q t).2.lst=t.lst.filter (λx=>!Hp x.1 q)
 |nil,_=>⟨rfl,rfl⟩
 |node l x y r,h=>by
  obtain⟨u,f,i,p⟩:=US h;unfold split;split
  ·rename_i c;obtain⟨a,b⟩:=lst_split q r f;have w:l.lst.filter (λx=>Hp x.1 q)=l.lst:=Ee λz j=>Ce (i z j) c
   have m:l.lst.filter (λx=>!Hp x.1 q)=[]:=GV λz j=>by rw[Ce (i z j) c];rfl
   simp[E9,a,b,lst,QY,Qi,c,w,m]
  ·rename_i c;have c:Hp x q=false:=by simpa using c
   obtain⟨a,b⟩:=lst_split q l u;have n:∀z∈r.lst,Hp z.1 q=false:=λz j=>by
    cases hh:Hp z.1 q with
    |false=>rfl
    |true=>rw[Ce (p z j) hh]at c;cases c
   have w:r.lst.filter (λx=>Hp x.1 q)=[]:=GV n;have m:r.lst.filter (λx=>!Hp x.1 q)=r.lst:=Ee λz j=>by rw[n z j];rfl
   simp[E9,a,b,lst,QY,Qi,c,w,m]
def cnt_lst:∀t:Tr,t.lst.length=t.cnt
 |nil=>rfl
 |node l k v r=>by simp[lst,cnt,cnt_lst l,cnt_lst r];omega
def at_lst:∀(t:Tr)(i:Nat),at_ t i=t.lst[i]?
 |nil,i=>by simp[at_,lst]
 |node l x y r,i=>by
  unfold at_;have z:=cnt_lst l;split
  ·rename_i c;rw[at_lst l i,lst,QP O]
  ·split
   ·rename_i b c;rw[at_lst r,lst,Zh O,z];obtain⟨j,rfl⟩:∃j,i=l.cnt+1+j:=⟨i-(l.cnt+1),O⟩;rw[show l.cnt+1+j-l.cnt=j+1 by omega,List.getElem?_cons_succ];congr 1;omega
   ·rename_i b c;have:i=l.cnt:=by omega
    rw[lst,Zh O,z,this];simp
def OV(l:List (Kt×Kt))(q:Kt):Option Kt:=(l.find? λx=>x.1==q).map (·.2)
def get_lst(q:Kt):∀t:Tr,Ord t.lst->get q t=OV t.lst q
 |nil,_=>rfl
 |node l x y r,h=>by
  obtain⟨u,f,i,p⟩:=US h;have w:∀{l:List (Kt×Kt)},(∀z∈l,z.1≠q)->l.find? (λx=>x.1==q)=none:=λv=>Zi.2 λz hz=>by simpa using v z hz
  unfold get;split
  ·rename_i c;have e:((x,y)::r.lst).find? (λx=>x.1==q)=none:=w λz hz e=>by
    rcases Qn.1 hz with rfl|hz
    ·simp only at e;subst e;rw[Co]at c;cases c
    ·have:=Ce c (p z hz);rw[e,Co]at this;cases this
   rw[get_lst q l u];simp only[OV,lst,Zk,e,Option.or_none]
  ·split
   ·rename_i b c;have e:l.lst.find? (λx=>x.1==q)=none:=w λz hz e=>by
     have:=Ce (i z hz) c;rw[e,Co]at this;cases this
    have m:(x==q)=false:=by
     cases v:x==q with
     |false=>rfl
     |true=>have:=beq_iff_eq.1 v;subst this;rw[Co]at c;cases c
    rw[get_lst q r f];simp only[OV,lst,Zk,e,Option.none_or,ZL,m]
   ·rename_i b c;have e:x=q:=by
     by_cases e:x=q
     ·exact e
     ·have:=L2 e;simp_all
    subst e;have e:l.lst.find? (λz=>z.1==x)=none:=Zi.2 λz hz=>by
     intro e;have:=beq_iff_eq.1 e;have k:=i z hz;rw[this,Co]at k;cases k
    simp[OV,lst,Zk,e,ZL]
end Tr
def aA2{P:Program}{f:FuncId}{N:Nat}{s:DC}{rs:List RV}(k:Fn P f N s rs):(Ac λ_=>none).ok P f:=by
 obtain⟨c,v,q,y,i,p,x,n⟩:=k.is;refine⟨⟨c,q,Xu,i⟩,λds m m' fr _=>rfl,?_⟩;intro t w0 w m g fr ds vs r u hi o hl b z;simp[Ac]at z
def mU(S:(List D->Option D)->G8)(s:DC)(rs:List RV)(N:Nat):Nat->List D->Option D
 |0=>λ_=>none
 |n+1=>RF (S (mU S s rs N n)) s rs N
def aAD{P:Program}{f:FuncId}{N:Nat}{s:DC}{rs:List RV}{S:(List D->Option D)->G8}(k:Fn P f N s rs)(w:∀G,(Ac G).ok P f->G8.ok P (S G)):∀n,(Ac (mU S s rs N n)).ok P f
 |0=>aA2 k
 |n+1=>Ap k (w _ (aAD k w n))
def aGL{P:Program}{f:FuncId}{A:Nat->List D->Option D}(m:List D->Nat)(h:∀n,(Ac (A n)).ok P f):(Ac λds=>A (m ds) ds).ok P f:=by
 refine⟨(h 0).1,λds m m' fr _=>rfl,?_⟩;intro t w0 w m' g fr ds vs r u hi o hl b z;obtain⟨_,_,i⟩:=h (m (ds.map D.un));exact i hi o hl b (by simpa[Ac]using z)
def Hj:Tr->D
 | .nil=> .nilptr
 | .node l k v r=> .eptr [.str k,.str v,Hj l,Hj r,.int .i64 ((Tr.node l k v r).tall:Nat),.int .i64 ((Tr.node l k v r).cnt:Nat),.int .i64 ((Tr.node l k v r).wgt:Nat)]
def Wy(t:Tr):(Hj t).calm=true:=Xi
def sV(t:Tr):(Hj t).calm1=true:=Xi
def aOd(t:Tr):(Hj t).un=Hj t:=Xi
def aGg(t:Tr):(Hj t).un1=Hj t:=Xi
def sU(t:Tr):(Hj t).cells=[Hj t]:=Xi
def Fw:∀{a b:Tr},Hj a=Hj b->a=b
 | .nil,.nil,_=>rfl
 | .nil,.node _ _ _ _,h=>by simp[Hj]at h
 | .node _ _ _ _,.nil,h=>by simp[Hj]at h
 | .node l k v r,.node l' k' v' r',h=>by
  simp only[Hj,D.eptr.injEq,Qk,D.str.injEq]at h;obtain⟨rfl,rfl,u,y,_⟩:=h;rw[Fw u,Fw y]
def D.dep:D->Nat
 | .eptr ds=>1+D.depL ds
 |_=>0
where D.depL:List D->Nat
 |[]=>0
 |d::ds=>max d.dep (D.depL ds)
def Li:∀t:Tr,(Hj t).dep=t.tall
 | .nil=>rfl
 | .node l k v r=>by
  simp only[Hj,D.dep,D.dep.D.depL,Li l,Li r,Tr.tall];omega
def lL(ds:List D):Nat:=2*D.dep.D.depL ds+1
def RT(S:(List D->Option D)->G8)(s:DC)(rs:List RV)(N:Nat)(ds:List D):Option D:=mU S s rs N (lL ds) ds
def oE{P:Program}{f:FuncId}{N:Nat}{s:DC}{rs:List RV}{S:(List D->Option D)->G8}(k:Fn P f N s rs)(w:∀G,(Ac G).ok P f->G8.ok P (S G)):(Ac (RT S s rs N)).ok P f:=
 aGL lL (aAD k w)
namespace Tr
def cI(a b:Kt):Hp a b=true∨a=b∨Hp b a=true:=by
 by_cases e:a=b
 ·exact .inr (.inl e)
 ·have:=L2 e;cases h:Hp a b with
  |true=>exact .inl rfl
  |false=>rw[h]at this;exact .inr (.inr (by cases y:Hp b a<;>simp_all))
def aTs{a b:Kt}(h:Hp a b=true):(a==b)=false:=by
 cases hh:a==b with
 |false=>rfl
 |true=>have:=beq_iff_eq.1 hh;subst this;rw[Co]at h;cases h
def aOL{a b:Kt}(h:Hp a b=true):(b==a)=false:=by
 cases hh:b==a with
 |false=>rfl
 |true=>have:=beq_iff_eq.1 hh;subst this;rw[Co]at h;cases h
def ord_sub{a b:List (Kt×Kt)}(h:a.Sublist b)(k:Ord b):Ord a:=List.Pairwise.sublist h k
def aCm(q:Kt):∀{l:List (Kt×Kt)},Ord l->l.filter (λx=>Hp x.1 q)++l.filter (λx=>Hp q x.1)=l.filter (λx=>x.1 !=q)
 |[],_=>rfl
 |(k,v)::l,h=>by
  obtain⟨u,y⟩:=QM.1 h;have ih:=aCm q y;rcases cI k q with c|rfl|c
  ·simp only[bne]at ih ⊢;simp[Qi,c,CT c,aTs c,ih]
  ·have w:l.filter (λx=>Hp x.1 k)=[]:=GV λz j=>CT (u z j)
   rw[w]at ih;simp only[bne]at ih ⊢;simp[Qi,Co,w,←ih]
  ·have w:l.filter (λx=>Hp x.1 q)=[]:=GV λz j=>CT (Ce c (u z j))
   rw[w]at ih;simp only[bne]at ih ⊢;simp[Qi,c,CT c,aOL c,w,←ih]
def fil_ge{q v:Kt}:∀{l:List (Kt×Kt)},Ord l->(q,v)∈l->l.filter (λx=>!Hp x.1 q)=(q,v)::l.filter (λx=>Hp q x.1)
 |(k,w)::l,h,hm=>by
  obtain⟨u,y⟩:=QM.1 h;rcases Qn.1 hm with e|hm
  ·cases e;have n:l.filter (λx=>!Hp x.1 q)=l:=Ee λz j=>by rw[CT (u z j)];rfl
   have m:l.filter (λx=>Hp q x.1)=l:=Ee λz j=>u z j
   simp[Qi,Co,n,m]
  ·have c:=u _ hm;simp only at c;simp[Qi,c,CT c,fil_ge y hm]
def getL_some{l:List (Kt×Kt)}{q v:Kt}(h:OV l q=some v):(q,v)∈l:=by
 unfold OV at h;obtain⟨x,u,rfl⟩:=Qx.1 h;have y:=List.find?_some u;have i:=List.mem_of_find?_eq_some u;have:x.1=q:=XQ
 rw[←this];exact i
def TF{l:List (Kt×Kt)}{q:Kt}(h:OV l q=none):∀x∈l,x.1≠q:=by
 unfold OV at h;have u:=Option.map_eq_none_iff.1 h;intro x w e;have:=Zi.1 u x w;simp[e]at this
def getL_mem{l:List (Kt×Kt)}(h:Ord l){q v:Kt}(n:(q,v)∈l):OV l q=some v:=by
 cases hg:OV l q with
 |none=>exact absurd rfl (TF hg _ n)
 |some w=>
  have f:=getL_some hg;rcases Classical.em (w=v)with e|e
  ·rw[e]
  ·exfalso;obtain⟨i,hi,k⟩:=QI n;obtain⟨j,b,u⟩:=QI f;rcases ZE i j with c|c|c
   ·have:=QD.1 h i j hi b c;rw[k,u,Co]at this;cases this
   ·subst c;rw[k]at u;cases u;exact e rfl
   ·have:=QD.1 h j i b hi c;rw[k,u,Co]at this;cases this
def delT(q:Kt)(t:Tr):Tr:=
 match get q t with
 |none=>t
 |some _=>match (split q t).2 with
  |nil=>(split q t).1
  |node a x y b=>both (split q t).1 (first a x y b).2.2
def lst_del(q:Kt)(t:Tr)(h:Ord t.lst):(delT q t).lst=t.lst.filter λx=>x.1 !=q:=by
 unfold delT;rw[get_lst q t h];cases hg:OV t.lst q with
 |none=>exact(Ee λz u=>by simpa using TF hg z u).symm
 |some v=>
  have j:=getL_some hg;obtain⟨r,g⟩:=lst_split q t h;rw[fil_ge h j]at g;simp only;cases u:(split q t).2 with
  |nil=>rw[u]at g;cases g
  |node a x y b=>
   rw[u]at g;have k:=Gm a x y b;simp only[lst]at g;rw[g]at k;simp only[cH,r,(ZW k).2,aCm q h]
def beyB:Kt->Option Kt
 |[]=>none
 |x::r=>match beyB r with
  |some e=>some (x::e)
  |none=>if x<255 then some [x+1]else none
def dropT(p:Kt)(t:Tr):Tr:=
 match beyB p with
 |none=>(split p t).1
 |some e=>both (split p t).1 (split e (split p t).2).2
def TS(p:Kt)(l:List (Kt×Kt)):List (Kt×Kt):=
 l.filter (λx=>Hp x.1 p)++match beyB p with
  |none=>[]
  |some e=>(l.filter λx=>!Hp x.1 p).filter λx=>!Hp x.1 e
def lst_drop(p:Kt)(t:Tr)(h:Ord t.lst):(dropT p t).lst=TS p t.lst:=by
 obtain⟨r,g⟩:=lst_split p t h;unfold dropT TS;cases beyB p with
 |none=>simp[r]
 |some e=>
  have:=(lst_split e (split p t).2 (by rw[g];exact ord_sub QX h)).2;simp only[cH,r,this,g]
def pZ(p:Kt):∀{l:List (Kt×Kt)},Ord l->l.filter (λx=>Hp x.1 p)++l.filter (λx=>!Hp x.1 p)=l
 |[],_=>rfl
 |(k,v)::l,h=>by
  obtain⟨u,y⟩:=QM.1 h;have ih:=pZ p y;cases c:Hp k p with
  |true=>simp[Qi,c,ih]
  |false=>
   have e:∀z∈l,Hp z.1 p=false:=λz j=>by
    cases hh:Hp z.1 p with
    |false=>rfl
    |true=>rw[Ce (u z j) hh]at c;cases c
   have w:l.filter (λx=>Hp x.1 p)=[]:=GV e;have m:l.filter (λx=>!Hp x.1 p)=l:=Ee λz j=>by rw[e z j];rfl
   simp only[Qi,c,w,m];rfl
def drop_sub(p:Kt){l:List (Kt×Kt)}(h:Ord l):(TS p l).Sublist l:=by
 unfold TS;have e:=pZ p h
 conv=>rhs;rw[←e]
 refine List.Sublist.append (List.Sublist.refl _) ?_;cases beyB p with
 |none=>exact List.nil_sublist _
 |some e=>exact QX
def ins_ord{l:List (Kt×Kt)}(h:Ord l)(k v:Kt):Ord (Vc l k v):=by
 refine oP.2 ⟨ord_sub QX h,QM.2 ⟨λx q=>YA,ord_sub QX h⟩,λx q y hy=>?_⟩;have c:Hp x.1 k=true:=YA
 rcases Qn.1 hy with rfl|hy
 ·exact c
 ·exact Ce c (by simpa using (QQ.1 hy).2)
def ins_mem{l:List (Kt×Kt)}{k v:Kt}{x:Kt×Kt}(h:x∈Vc l k v):x=(k,v)∨x∈l:=by
 unfold Vc at h;rcases QH.1 h with h|h
 ·exact .inr (QQ.1 h).1
 ·rcases Qn.1 h with h|h
  ·exact .inl h
  ·exact .inr (QQ.1 h).1
inductive Op1 where
 |put (k v:Kt)
 |del (k:Kt)
 |drop (k:Kt)
def costL(x:Kt×Kt):Nat:=36+x.1.length+min x.2.length 1048576
def weighL(l:List (Kt×Kt)):Nat:=4+(l.map costL).sum
def weigh_len:∀l:List (Kt×Kt),36*l.length+4<=weighL l
 |[]=>by simp[weighL]
 |y::l=>by
  have:=weigh_len l;simp only[weighL,QV,ZQ,Qb,costL]at this ⊢;omega
def tall_cnt:∀t:Tr,t.tall<=t.cnt
 |nil=>Qe _
 |node l k v r=>by have:=tall_cnt l;have:=tall_cnt r;simp only[tall,cnt];omega
def sizeL(l:List (Kt×Kt)):Nat:=(l.map λx=>4+x.1.length+x.2.length).sum
def wgt_lst:∀t:Tr,t.wgt=sizeL t.lst
 |nil=>rfl
 |node l k v r=>by
  have:=wgt_lst l;have:=wgt_lst r;simp only[wgt,lst,sizeL,Zv,List.sum_append,QV,ZQ]at *;omega
end Tr
end Go.Vd
namespace Go.Vd
open Go.Proofs Go.RowKit
def Lh:Hj .nil= .nilptr:=rfl
section
variable{S:G8}{l r:Tr}{k v:Bs}
def aOc{K:D->Hf->Prop}{g:Tag K}:Lt (Hj (.node l k v r)) K g=K (Hj (.node l k v r)) []:=rfl
def aRW:Fg 0 (Hj (.node l k v r))=some (.eptr [.str k,.str v,Hj l,Hj r,.int .i64 ((Tr.node l k v r).tall:Nat),.int .i64 ((Tr.node l k v r).cnt:Nat),.int .i64 ((Tr.node l k v r).wgt:Nat)]):=rfl
def aRV:Fg 1 (Hj (.node l k v r))=some (.eptr [.str v,Hj l,Hj r,.int .i64 ((Tr.node l k v r).tall:Nat),.int .i64 ((Tr.node l k v r).cnt:Nat),.int .i64 ((Tr.node l k v r).wgt:Nat)]):=rfl
def aRU:Fg 2 (Hj (.node l k v r))=some (.eptr [Hj l,Hj r,.int .i64 ((Tr.node l k v r).tall:Nat),.int .i64 ((Tr.node l k v r).cnt:Nat),.int .i64 ((Tr.node l k v r).wgt:Nat)]):=rfl
def aRT:Fg 3 (Hj (.node l k v r))=some (.eptr [Hj r,.int .i64 ((Tr.node l k v r).tall:Nat),.int .i64 ((Tr.node l k v r).cnt:Nat),.int .i64 ((Tr.node l k v r).wgt:Nat)]):=rfl
def aRS:Fg 4 (Hj (.node l k v r))=some (.eptr [.int .i64 ((Tr.node l k v r).tall:Nat),.int .i64 ((Tr.node l k v r).cnt:Nat),.int .i64 ((Tr.node l k v r).wgt:Nat)]):=rfl
def aRR:Fg 5 (Hj (.node l k v r))=some (.eptr [.int .i64 ((Tr.node l k v r).cnt:Nat),.int .i64 ((Tr.node l k v r).wgt:Nat)]):=rfl
def aRQ:Fg 6 (Hj (.node l k v r))=some (.eptr [.int .i64 ((Tr.node l k v r).wgt:Nat)]):=rfl
def aRP:MI 1 (Hj (.node l k v r)) .nilptr=some false:=rfl
def aOa:MI 1 .nilptr .nilptr=some true:=rfl
def Uq(t:Tr):(Hj t).calm=true:=Wy t
def Ww(t:Tr):(Hj t).calmR=true:=Xi
def aOb(t:Tr):(Hj t).unR=Hj t:=Xi
def aGc(t:Tr):(Hj t).data=true:=Xi
def aGX:D.calm .nilptr=true:=rfl
def aS2:D.un .nilptr= .nilptr:=rfl
def aA0:D.cells .nilptr=[.nilptr]:=rfl
def aA1:D.calm1 .nilptr=true:=rfl
def aOF:D.un1 .nilptr= .nilptr:=rfl
end
def Hm:=Qq @aOc <| Qq @aRW <| Qq @aRV <| Qq @aRU <| Qq @aRT <| Qq @aRS <| Qq @aRR <| Qq @aRQ <| Qq @aRP <| Qq @aOa <| Qq Uq <| Qq Ww <| Qq aOb <| Qq aGc <| Qq aOd <| Qq aGg <| Qq sV <| Qq sU <| Qq aGX <| Qq aS2 <| Qq aA0 <| Qq aA1 <| Qq aOF Lh
def aVK:=Ar []
def gA:=RF aVK aCO [.t 2] 9
def kC:Kq gA 256:=Ap (Aj func256) Ad
def Dh(t:Tr):gA [Hj t]=some (.int .i64 (t.tall:Nat)):=by
 refine Al (Qa rfl) ?_;unfold aCO;cases t with
 |nil=>
  simp only[Hb,↓C2,G7,simprocAttr,Hm,bne_self_eq_false]
  all_goals exact Y6
 |node l k v r=>
  simp only[Hb,↓C2,G7,simprocAttr,Hm]
  all_goals exact Y6
def aVQ:=Ar []
def Ns:=RF aVQ aCW [.t 2] 9
def U7:Kq Ns 104:=Ap (Aj func104) Ad
def La(t:Tr):Ns [Hj t]=some (.int .i64 (t.cnt:Nat)):=by
 refine Al (Qa rfl) ?_;unfold aCW;cases t with
 |nil=>
  simp only[Hb,↓C2,G7,simprocAttr,Hm,bne_self_eq_false]
  all_goals exact Y6
 |node l k v r=>
  simp only[Hb,↓C2,G7,simprocAttr,Hm]
  all_goals exact Y6
def aVN:=Ar []
def aEz:=RF aVN aCS [.t 2] 9
def aBB:Kq aEz 172:=Ap (Aj func172) Ad
def Sd(t:Tr):aEz [Hj t]=some (.int .i64 (t.wgt:Nat)):=by
 refine Al (Qa rfl) ?_;unfold aCS;cases t with
 |nil=>
  simp only[Hb,↓C2,G7,simprocAttr,Hm,bne_self_eq_false]
  all_goals exact Y6
 |node l k v r=>
  simp only[Hb,↓C2,G7,simprocAttr,Hm]
  all_goals exact Y6
def mkN(p:Tr×Bs×Bs×Tr):List D:=[Hj p.1,.str p.2.1,.str p.2.2.1,Hj p.2.2.2]
def aG4(x y)(h:mkN x=mkN y):x=y:=by
 obtain⟨a,b,c,d⟩:=x;obtain⟨t,r,c',n⟩:=y;simp only[mkN,Qk,D.str.injEq,and_true]at h;obtain⟨u,rfl,rfl,f⟩:=h;rw[Fw u,Fw f]
def aKn(l:Tr)(k v:Bs)(r:Tr):Prop:=l.cnt+r.cnt<=1000000∧l.wgt+r.wgt+k.length+v.length<=1000000000000
def Ld:List D->Option D:=FX mkN (λp=>aKn p.1 p.2.1 p.2.2.1 p.2.2.2) λp=>Hj (.node p.1 p.2.1 p.2.2.1 p.2.2.2)
def Ht{l:Tr}{k v:Bs}{r:Tr}(h:aKn l k v r):Ld [Hj l,.str k,.str v,Hj r]=some (Hj (.node l k v r)):=B3 (mk:=mkN) (a:=(l,k,v,r)) aG4 h
def NL:Kq Ld 202:=by
 obtain⟨S,g,hl⟩:=Bv (Aa kC (Aa U7 (Aa aBB Ad)));have e:=hl 256 _ rfl;have z:=hl 104 _ rfl;have a:=hl 172 _ rfl;clear hl;refine aCb g (Aj func202:Fn Qc 202 39 aCR [.t 8]) (λ_=>by simp[mkN]) (λp c=>⟨Ww _,?_⟩);obtain⟨l,k,v,r⟩:=p;obtain⟨n,f⟩:=c;simp only at n f;have b:=Tr.tall_cnt l;have t2:=Tr.tall_cnt r;have a1:=Dh l;have a2:=Dh r;have u:=La l;have b2:=La r;have c1:=Sd l;have c2:=Sd r;have w:IntKind.i64.wrap (1+max (l.tall:Int) r.tall)=((1+max l.tall r.tall:Nat):Int):=Xh
 have y:IntKind.i64.wrap (1+(l.cnt:Int))=((1+l.cnt:Nat):Int):=Xh
 have s:IntKind.i64.wrap (((1+l.cnt:Nat):Int)+r.cnt)=((1+l.cnt+r.cnt:Nat):Int):=Xh
 have e4:IntKind.i64.wrap (4+(k.length:Int))=((4+k.length:Nat):Int):=Xh
 have e5:IntKind.i64.wrap (((4+k.length:Nat):Int)+v.length)=((4+k.length+v.length:Nat):Int):=Xh
 have e6:IntKind.i64.wrap (((4+k.length+v.length:Nat):Int)+l.wgt)=((4+k.length+v.length+l.wgt:Nat):Int):=Xh
 have e7:IntKind.i64.wrap (((4+k.length+v.length+l.wgt:Nat):Int)+r.wgt)=((4+k.length+v.length+l.wgt+r.wgt:Nat):Int):=Xh
 unfold aCR mkN;simp only;simp only[Hb,↓C2,G7,simprocAttr,Hm,Ab e,Ab z,Ab a,a1,a2,u,b2,c1,c2,w,y,s,e4,e5,e6,e7];refine .inl ⟨Uq _,.inl (.inr (.inr ⟨_,_,rfl,rfl,?_,?_⟩))⟩
 ·intro x q;simp only[Qn,Zl,or_false]at q;rcases q with rfl|rfl|rfl|rfl|rfl|rfl|rfl
  all_goals (first|rfl|exact Uq _)
 ·intro j x q;have hl:=(Qy.1 q).1;have c:=aD (m:=λ_ _=>none) (i:=[30]) (o:=0) (ds:=[D.str k,D.str v,Hj l,Hj r,D.int IntKind.i64 ((Tr.node l k v r).tall:Nat),D.int IntKind.i64 ((Tr.node l k v r).cnt:Nat),D.int IntKind.i64 ((Tr.node l k v r).wgt:Nat)]) (j:=j) hl;rw[Qj]at c;rw[←q];exact c
def aCN:=y2 f257 [(2,[(16,20),(16,24),(16,28)])] []
def aCM:=y2 Tryz.f258 [(2,[(28,3),(28,7),(28,11)])] []
def aCQ:=y2 f203 [(1,[(4,8)]),(3,[(7,11),(7,14)]),(4,[(4,8),(4,12),(4,16)]),(7,[(7,11),(7,14)]),(8,[(16,3),(16,7),(16,11)])] []
namespace Tr
def cnt_level(l:Tr)(k v:Kt)(r:Tr):(level l k v r).cnt=1+l.cnt+r.cnt:=by
 rw[←cnt_lst,ER,Qh,Qb,cnt_lst,cnt_lst];omega
def cnt_join(l:Tr)(k v:Kt)(r:Tr):(join l k v r).cnt=1+l.cnt+r.cnt:=by
 rw[←cnt_lst,E9,Qh,Qb,cnt_lst,cnt_lst];omega
def Mw(a b:List (Kt×Kt)):sizeL (a++b)=sizeL a+sizeL b:=by simp[sizeL]
def size_cons(k v:Kt)(b:List (Kt×Kt)):sizeL ((k,v)::b)=4+k.length+v.length+sizeL b:=by simp[sizeL]
def wgt_level(l:Tr)(k v:Kt)(r:Tr):(level l k v r).wgt=4+k.length+v.length+l.wgt+r.wgt:=by
 rw[wgt_lst,ER,Mw,size_cons,wgt_lst l,wgt_lst r];omega
def wgt_join(l:Tr)(k v:Kt)(r:Tr):(join l k v r).wgt=4+k.length+v.length+l.wgt+r.wgt:=by
 rw[wgt_lst,E9,Mw,size_cons,wgt_lst l,wgt_lst r];omega
def cnt_first(l:Tr)(k v:Kt)(r:Tr):(first l k v r).2.2.cnt=l.cnt+r.cnt:=by
 have:=congrArg ZT (Gm l k v r);rw[Qb,Qh,Qb,cnt_lst,cnt_lst,cnt_lst]at this;omega
def wgt_first(l:Tr)(k v:Kt)(r:Tr):4+(first l k v r).1.length+(first l k v r).2.1.length+(first l k v r).2.2.wgt=4+k.length+v.length+l.wgt+r.wgt:=by
 have:=congrArg sizeL (Gm l k v r);rw[Mw,size_cons,size_cons,←wgt_lst,←wgt_lst,←wgt_lst]at this;omega
def GJ(q:Kt):∀t:Tr,(split q t).1.lst++(split q t).2.lst=t.lst
 |nil=>rfl
 |node l x y r=>by
  unfold split;split
  ·have:=GJ q r;simp only[E9,lst];rw[←this];simp
  ·have:=GJ q l;simp only[E9,lst];rw[←this];simp
def cnt_split(q:Kt)(t:Tr):(split q t).1.cnt+(split q t).2.cnt=t.cnt:=by
 rw[←cnt_lst,←cnt_lst,←cnt_lst,←Qh,GJ]
def wgt_split(q:Kt)(t:Tr):(split q t).1.wgt+(split q t).2.wgt=t.wgt:=by
 rw[wgt_lst,wgt_lst,wgt_lst t,←Mw,GJ]
end Tr
def Wg(t:Tr):Prop:=t.cnt<=900000∧t.wgt<=900000000000
def aNi:=Ar [(202,Ac Ld)]
def aEx:=RF aNi aCN [.t 2] 38
def aO1:Kq aEx 257:=Ap (Aj func257) (Aa NL Ad)
def Sa{l:Tr}{k v:Bs}{a:Tr}{x y:Bs}{b:Tr}(h:Wg (.node l k v (.node a x y b))):aEx [Hj (.node l k v (.node a x y b))]=some (Hj (.node (.node l k v a) x y b)):=by
 refine Al (Qa rfl) ?_;unfold aCN;simp only[Wg,Tr.cnt,Tr.wgt]at h;have w:=Ht (l:=l) (k:=k) (v:=v) (r:=a) ⟨O,O⟩;have m:=Ht (l:= .node l k v a) (k:=x) (v:=y) (r:=b) ⟨Xg,Xf⟩;simp only[Hb,↓C2,G7,simprocAttr,Hm,Ae aNi 202,w,m]
 (refine Au.intro (Am ?_) ?_;first|rfl|simp[AV,AF,Hu,Ai,Ac])
 simp only[Hb,↓C2,G7,simprocAttr,Hm]
 all_goals exact Y6
def aNh:=Ar [(202,Ac Ld)]
def aEw:=RF aNh aCM [.t 2] 38
def aO0:Kq aEw 258:=Ap (Aj func258) (Aa NL Ad)
def R9{a:Tr}{x y:Bs}{b:Tr}{k v:Bs}{r:Tr}(h:Wg (.node (.node a x y b) k v r)):aEw [Hj (.node (.node a x y b) k v r)]=some (Hj (.node a x y (.node b k v r))):=by
 refine Al (Qa rfl) ?_;unfold aCM;simp only[Wg,Tr.cnt,Tr.wgt]at h;have w:=Ht (l:=b) (k:=k) (v:=v) (r:=r) ⟨O,O⟩;have m:=Ht (l:=a) (k:=x) (v:=y) (r:= .node b k v r) ⟨Xg,Xf⟩;simp only[Hb,↓C2,G7,simprocAttr,Hm,Ae aNh 202,w,m]
 (refine Au.intro (Am ?_) ?_;first|rfl|simp[AV,AF,Hu,Ai,Ac])
 simp only[Hb,↓C2,G7,simprocAttr,Hm]
 all_goals exact Y6
def DV:G8:=Ar [(256,Ac gA),(257,Ac aEx),(258,Ac aEw),(202,Ac Ld)]
def OQ:List D->Option D:=RF DV aCQ [.t 2] 96
def kD:Kq OQ 203:=Ap (Aj func203) (Aa kC (Aa aO1 (Aa aO0 (Aa NL Ad))))
def I9(l:Tr)(k v:Bs)(r:Tr)(h:Wg (.node l k v r)):OQ [Hj (.node l k v r)]=some (Hj (Tr.level l k v r)):=by
 refine Al (Qa rfl) ?_;unfold aCQ;have z:=Dh l;have f:=Dh r;have m1:=Tr.tall_cnt l;have m2:=Tr.tall_cnt r;have e:=h;simp only[Wg,Tr.cnt,Tr.wgt]at h;have g:IntKind.i64.wrap ((l.tall:Int)-r.tall)=(l.tall:Int)-r.tall:=Hy O O;unfold Tr.level;by_cases c1:r.tall+1<l.tall
 ·rw[if_pos c1];have t:((1:Int)<(l.tall:Int)-r.tall)=True:=eq_true O;cases l with
  |nil=>simp[Tr.tall]at c1
  |node a x y b=>
   have c:=Dh a;have u2:=Dh b;simp only[Tr.cnt,Tr.wgt]at h;simp only;by_cases n:a.tall<b.tall
   ·rw[if_pos n];have i:((a.tall:Int)<b.tall)=True:=eq_true O;cases b with
    |nil=>simp[Tr.tall]at n
    |node p q s u=>
     simp only[Tr.cnt,Tr.wgt]at h;have w:=Sa (l:=a) (k:=x) (v:=y) (a:=p) (x:=q) (y:=s) (b:=u) ⟨Xg,Xf⟩;have m:=Ht (l:= .node (.node a x y p) q s u) (k:=k) (v:=v) (r:=r) ⟨Xg,Xf⟩;have j:=R9 (a:= .node a x y p) (x:=q) (y:=s) (b:=u) (k:=k) (v:=v) (r:=r) ⟨Xg,Xf⟩;simp only[Tr.rotL,Tr.rotR];simp only[Hb,↓C2,G7,simprocAttr,Hm,Ae DV 256,z,f,g]
     (refine Au.intro (Am ?_) ?_;first|rfl|simp[AV,AF,Hu,Ai,Ac])
     simp only[Hb,↓C2,G7,simprocAttr,Hm,t,Ae DV 256,c,u2]
     (refine Au.intro (Am ?_) ?_;first|rfl|simp[AV,AF,Hu,Ai,Ac])
     simp only[Hb,↓C2,G7,simprocAttr,Hm,i,Ae DV 257,Ae DV 202,w,m]
     (refine Au.intro (Am ?_) ?_;first|rfl|simp[AV,AF,Hu,Ai,Ac])
     simp only[Hb,↓C2,G7,simprocAttr,Hm,Ae DV 258,j]
     all_goals exact Y6
   ·rw[if_neg n];have i:((a.tall:Int)<b.tall)=False:=eq_false O;have j:=R9 (a:=a) (x:=x) (y:=y) (b:=b) (k:=k) (v:=v) (r:=r) e;simp only[Tr.rotR];simp only[Hb,↓C2,G7,simprocAttr,Hm,Ae DV 256,z,f,g]
    (refine Au.intro (Am ?_) ?_;first|rfl|simp[AV,AF,Hu,Ai,Ac])
    simp only[Hb,↓C2,G7,simprocAttr,Hm,t,Ae DV 256,c,u2]
    (refine Au.intro (Am ?_) ?_;first|rfl|simp[AV,AF,Hu,Ai,Ac])
    simp only[Hb,↓C2,G7,simprocAttr,Hm,i,Ae DV 258,j]
    all_goals exact Y6
 ·rw[if_neg c1];have t:((1:Int)<(l.tall:Int)-r.tall)=False:=eq_false O;by_cases o:l.tall+1<r.tall
  ·rw[if_pos o];have d3:((l.tall:Int)-r.tall< -1)=True:=eq_true O;cases r with
   |nil=>simp[Tr.tall]at o
   |node a x y b=>
    have c:=Dh a;have u2:=Dh b;simp only[Tr.cnt,Tr.wgt]at h;simp only;by_cases n:b.tall<a.tall
    ·rw[if_pos n];have i:((b.tall:Int)<a.tall)=True:=eq_true O;cases a with
     |nil=>simp[Tr.tall]at n
     |node p q s u=>
      simp only[Tr.cnt,Tr.wgt]at h;have w:=R9 (a:=p) (x:=q) (y:=s) (b:=u) (k:=x) (v:=y) (r:=b) ⟨Xg,Xf⟩;have m:=Ht (l:=l) (k:=k) (v:=v) (r:= .node p q s (.node u x y b)) ⟨Xg,Xf⟩;have j:=Sa (l:=l) (k:=k) (v:=v) (a:=p) (x:=q) (y:=s) (b:= .node u x y b) ⟨Xg,Xf⟩;simp only[Tr.rotL,Tr.rotR];simp only[Hb,↓C2,G7,simprocAttr,Hm,Ae DV 256,z,f,g]
      (refine Au.intro (Am ?_) ?_;first|rfl|simp[AV,AF,Hu,Ai,Ac])
      simp only[Hb,↓C2,G7,simprocAttr,Hm,t,d3,Ae DV 256,c,u2]
      (refine Au.intro (Am ?_) ?_;first|rfl|simp[AV,AF,Hu,Ai,Ac])
      simp only[Hb,↓C2,G7,simprocAttr,Hm,i,Ae DV 258,Ae DV 202,w,m]
      (refine Au.intro (Am ?_) ?_;first|rfl|simp[AV,AF,Hu,Ai,Ac])
      simp only[Hb,↓C2,G7,simprocAttr,Hm,Ae DV 257,j]
      all_goals exact Y6
    ·rw[if_neg n];have i:((b.tall:Int)<a.tall)=False:=eq_false O;have j:=Sa (l:=l) (k:=k) (v:=v) (a:=a) (x:=x) (y:=y) (b:=b) e;simp only[Tr.rotL];simp only[Hb,↓C2,G7,simprocAttr,Hm,Ae DV 256,z,f,g]
     (refine Au.intro (Am ?_) ?_;first|rfl|simp[AV,AF,Hu,Ai,Ac])
     simp only[Hb,↓C2,G7,simprocAttr,Hm,t,d3,Ae DV 256,c,u2]
     (refine Au.intro (Am ?_) ?_;first|rfl|simp[AV,AF,Hu,Ai,Ac])
     simp only[Hb,↓C2,G7,simprocAttr,Hm,i,Ae DV 257,j]
     all_goals exact Y6
  ·rw[if_neg o];have d3:((l.tall:Int)-r.tall< -1)=False:=eq_false O;simp only[Hb,↓C2,G7,simprocAttr,Hm,Ae DV 256,z,f,g]
   (refine Au.intro (Am ?_) ?_;first|rfl|simp[AV,AF,Hu,Ai,Ac])
   simp only[Hb,↓C2,G7,simprocAttr,Hm,t,d3]
   all_goals exact Y6
def N0:=y2 f233 [(2,[(19,3),(19,7),(19,11)]),(4,[(7,11),(7,15),(7,19)])] []
def N3:=y2 f138 [(5,[(6,10),(6,14),(6,18)]),(7,[(18,3),(18,7),(18,11)])] []
def N1:=y2 f158 [] []
def aCV:=y2 f159 [] []
def N2:=y2 f157 [] []
def aUD(l r:Tr)(k v:Bs):l.tall+r.tall<lL [Hj l,.str k,.str v,Hj r]:=by
 simp only[lL,D.dep.D.depL,D.dep,Li];omega
def Np(G:List D->Option D):G8:=Ar [(256,Ac gA),(202,Ac Ld),(203,Ac OQ),(233,Ac G)]
def gB:=RT Np N0 [.t 8] 72
def aBA:Kq gB 233:=oE (Aj func233) λG h=>Aa kC (Aa NL (Aa kD (Aa h Ad)))
def aKM:∀(n:Nat)(l:Tr)(k v:Bs)(r:Tr),l.tall+r.tall<n->Wg (.node l k v r)->mU Np N0 [.t 8] 72 n [Hj l,.str k,.str v,Hj r]=some (Hj (Tr.join l k v r))
 |0,l,k,v,r,h,_=>O
 |n+1,l,k,v,r,hn,h=>by
  show RF (Np (mU Np N0 [.t 8] 72 n)) N0 [.t 8] 72 _=_;refine Al (Qa rfl) ?_;have ih:=aKM n;generalize mU Np N0 [.t 8] 72 n=G at ih ⊢;have e:Np G 256=some (Ac gA):=rfl;have c:Np G 202=some (Ac Ld):=rfl;have d:Np G 203=some (Ac OQ):=rfl;have f:Np G 233=some (Ac G):=rfl;have z:=Dh l;have j:=Dh r;have m1:=Tr.tall_cnt l;have m2:=Tr.tall_cnt r;simp only[Wg,Tr.cnt,Tr.wgt]at h;have w:IntKind.i64.wrap ((r.tall:Int)+1)=(r.tall:Int)+1:=Hy O O;have m:IntKind.i64.wrap ((l.tall:Int)+1)=(l.tall:Int)+1:=Hy O O;unfold N0 Tr.join;by_cases c1:r.tall+1<l.tall
  ·rw[if_pos c1];have u:((r.tall:Int)+1<l.tall)=True:=eq_true O;cases l with
   |nil=>simp[Tr.tall]at c1
   |node a x y b=>
    simp only[Tr.cnt,Tr.wgt]at h;have o:b.tall+r.tall<n:=by simp only[Tr.tall]at hn;omega
    have s:=ih b k v r o ⟨Xg,Xf⟩;have q1:=Tr.cnt_join b k v r;have p:=Tr.wgt_join b k v r;have g:=Ht (l:=a) (k:=x) (v:=y) (r:=Tr.join b k v r) ⟨O,O⟩;have i3:=I9 a x y (Tr.join b k v r) ⟨Xg,Xf⟩;simp only;simp only[Hb,↓C2,G7,simprocAttr,Hm,Ab e,z,j,w,u,Ab f,Ab c,Ab d,s,g,i3]
    (refine Au.intro (Am ?_) ?_;first|rfl|simp[AV,AF,Hu,Ai,Ac])
    simp only[Hb,↓C2,G7,simprocAttr,Hm]
    all_goals exact Y6
  ·rw[if_neg c1];have u:((r.tall:Int)+1<l.tall)=False:=eq_false O;by_cases q:l.tall+1<r.tall
   ·rw[if_pos q];have i:((l.tall:Int)+1<r.tall)=True:=eq_true O;cases r with
    |nil=>simp[Tr.tall]at q
    |node a x y b=>
     simp only[Tr.cnt,Tr.wgt]at h;have o:l.tall+a.tall<n:=by simp only[Tr.tall]at hn;omega
     have s:=ih l k v a o ⟨Xg,Xf⟩;have q1:=Tr.cnt_join l k v a;have p:=Tr.wgt_join l k v a;have g:=Ht (l:=Tr.join l k v a) (k:=x) (v:=y) (r:=b) ⟨O,O⟩;have i3:=I9 (Tr.join l k v a) x y b ⟨Xg,Xf⟩;simp only;simp only[Hb,↓C2,G7,simprocAttr,Hm,Ab e,z,j,w,m,u,i,Ab f,Ab c,Ab d,s,g,i3]
     (refine Au.intro (Am ?_) ?_;first|rfl|simp[AV,AF,Hu,Ai,Ac])
     simp only[Hb,↓C2,G7,simprocAttr,Hm]
     all_goals exact Y6
   ·rw[if_neg q];have i:((l.tall:Int)+1<r.tall)=False:=eq_false O;have g:=Ht (l:=l) (k:=k) (v:=v) (r:=r) ⟨O,O⟩;simp only[Hb,↓C2,G7,simprocAttr,Hm,Ab e,z,j,w,m,u,i,Ab c,g]
    all_goals exact Y6
def Sb(l:Tr)(k v:Bs)(r:Tr)(h:Wg (.node l k v r)):gB [Hj l,.str k,.str v,Hj r]=some (Hj (Tr.join l k v r)):=aKM _ l k v r (aUD l r k v) h
def U4{a b:Bs}:(CV a b<0)=(Hp a b=true):=by
 unfold CV Hp;by_cases h:Op.bytesLess a b=true
 ·rw[if_pos h,h];exact propext ⟨λ_=>rfl,λ_=>O⟩
 ·rw[if_neg h];refine propext ⟨λy=>?_,λy=>absurd y h⟩;split at y<;>omega
def VH{a b:Bs}:(0<CV a b)=(Hp b a=true):=by
 unfold CV;by_cases h:Op.bytesLess a b=true
 ·rw[if_pos h];have:=CT (a:=a) (b:=b) h;simp only[this];exact propext ⟨λh=>O,λh=>Xc⟩
 ·rw[if_neg h];by_cases e:a=b
  ·subst e;rw[if_pos rfl,Co];exact propext ⟨λh=>O,λh=>Xc⟩
  ·rw[if_neg e];have:=L2 e;have f:Hp a b=false:=by simpa using h
   rw[f]at this;have y:Hp b a=true:=by
    cases hh:Hp b a with
    |true=>rfl
    |false=>rw[hh]at this;cases this
   rw[y];exact propext ⟨λ_=>rfl,λ_=>O⟩
def Nq(G:List D->Option D):G8:=Ar [(62,Ac O_),(202,Ac Ld),(203,Ac OQ),(138,Ac G)]
def aEF:=RT Nq N3 [.t 6] 78
def aO4:Kq aEF 138:=oE (Aj func138) λG h=>Aa oY (Aa NL (Aa kD (Aa h Ad)))
def Nf(k v:Bs):∀t:Tr,(t.put k v).cnt<=1+t.cnt∧(t.put k v).wgt<=4+k.length+v.length+t.wgt
 | .nil=>by simp[Tr.put,Tr.cnt,Tr.wgt]
 | .node l x y r=>by
  have u:=Nf k v l;have f:=Nf k v r;unfold Tr.put;split
  ·rw[Tr.cnt_level,Tr.wgt_level];simp only[Tr.cnt,Tr.wgt];omega
  split
  ·rw[Tr.cnt_level,Tr.wgt_level];simp only[Tr.cnt,Tr.wgt];omega
  ·rename_i c1 n;have e:k=x:=by
    by_cases e:k=x
    ·exact e
    ·have:=L2 e;simp_all
   subst e;simp only[Tr.cnt,Tr.wgt];omega
def aKP:∀(n:Nat)(t:Tr)(k v:Bs),t.tall<n->t.cnt<=800000->t.wgt+k.length+v.length<=800000000000->mU Nq N3 [.t 6] 78 n [Hj t,.str k,.str v]=some (Hj (t.put k v))
 |0,t,k,v,h,_,_=>O
 |n+1,t,k,v,hn,hc,hw=>by
  show RF (Nq (mU Nq N3 [.t 6] 78 n)) N3 [.t 6] 78 _=_;refine Al (Qa rfl) ?_;have ih:=aKP n;generalize mU Nq N3 [.t 6] 78 n=G at ih ⊢;have j:Nq G 62=some (Ac O_):=rfl;have c:Nq G 202=some (Ac Ld):=rfl;have d:Nq G 203=some (Ac OQ):=rfl;have a:Nq G 138=some (Ac G):=rfl;unfold N3;cases t with
  |nil=>
   have s:=Ht (l:= .nil) (k:=k) (v:=v) (r:= .nil) ⟨by simp[Tr.cnt],by simp only[Tr.wgt]at hw ⊢;omega⟩;rw[Lh]at s;simp only[Tr.put];simp only[Hb,↓C2,G7,simprocAttr,Hm,bne_self_eq_false,Ab c,s]
   all_goals exact Y6
  |node l x y r=>
   simp only[Tr.cnt,Tr.wgt,Tr.tall]at hn hc hw;have z:O_ [.str k,.str x]=some (.int .i64 (CV k x)):=rfl;have e:=Nf k v l;have o:=Nf k v r;unfold Tr.put;by_cases c1:Hp k x=true
   ·rw[if_pos c1];have u:(CV k x<0)=True:=by rw[U4];exact eq_true c1
    have s:=ih l k v O O O;have g:=Ht (l:=l.put k v) (k:=x) (v:=y) (r:=r) ⟨O,O⟩;have w:=I9 (l.put k v) x y r ⟨Xg,Xf⟩;simp only[Hb,↓C2,G7,simprocAttr,Hm,Ab j,z,u,Ab a,Ab c,Ab d,s,g,w]
    (refine Au.intro (Am ?_) ?_;first|rfl|simp[AV,AF,Hu,Ai,Ac])
    simp only[Hb,↓C2,G7,simprocAttr,Hm]
    all_goals exact Y6
   ·rw[if_neg c1];have u:(CV k x<0)=False:=by rw[U4];exact eq_false c1
    by_cases q:Hp x k=true
    ·rw[if_pos q];have i:(0<CV k x)=True:=by rw[VH];exact eq_true q
     have s:=ih r k v O O O;have g:=Ht (l:=l) (k:=x) (v:=y) (r:=r.put k v) ⟨O,O⟩;have w:=I9 l x y (r.put k v) ⟨Xg,Xf⟩;simp only[Hb,↓C2,G7,simprocAttr,Hm,Ab j,z,u,i,Ab a,Ab c,Ab d,s,g,w]
     (refine Au.intro (Am ?_) ?_;first|rfl|simp[AV,AF,Hu,Ai,Ac])
     simp only[Hb,↓C2,G7,simprocAttr,Hm]
     all_goals exact Y6
    ·rw[if_neg q];have i:(0<CV k x)=False:=by rw[VH];exact eq_false q
     have g:=Ht (l:=l) (k:=k) (v:=v) (r:=r) ⟨O,O⟩;simp only[Hb,↓C2,G7,simprocAttr,Hm,Ab j,z,u,i,Ab c,g]
     (refine Au.intro (Am ?_) ?_;first|rfl|simp[AV,AF,Hu,Ai,Ac])
     simp only[Hb,↓C2,G7,simprocAttr,Hm]
     all_goals exact Y6
def aEE(t:Tr)(k v:Bs)(z:t.cnt<=800000)(f:t.wgt+k.length+v.length<=800000000000):aEF [Hj t,.str k,.str v]=some (Hj (t.put k v)):=
 aKP _ t k v YF z f
def aC4:=y2 f83 [] []
def aC3:=y2 f89 [] []
def aC2:=y2 f90 [] []
def M8:=y3 f39 2 [] []
def aDg:=y2 f39 [] [(2,M8)]
def Na:=y3 f27 2 [] []
def aDl:=y2 f27 [] [(2,Na)]
def M6:=y3 f49 3 [] []
def aDc:=y2 f49 [] [(3,M6)]
def M1:=y3 f50 4 [] []
def aDb:=y2 f50 [] [(4,M1)]
def aCY:=y2 f102 [] []
def aCX:=y2 f103 [] []
def MY:=y3 f160 2 [] []
def aCU:=y2 f160 [] [(2,MY)]
def aDa:=y2 f51 [] []
def OO(G:List D->Option D):G8:=Ar [(202,Ac Ld),(203,Ac OQ),(158,Ac G)]
def rX:=RT OO N1 [.t 2,.t 3,.t 4] 48
def aBD:Kq rX 158:=oE (Aj func158) λG h=>Aa NL (Aa kD (Aa h Ad))
def aPJ(z:Bs×Bs×Tr):D:= .tup [.str z.1,.str z.2.1,Hj z.2.2]
def aKN:∀(n:Nat)(l:Tr)(k v:Bs)(r:Tr),(Tr.node l k v r).tall<n->Wg (.node l k v r)->mU OO N1 [.t 2,.t 3,.t 4] 48 n [Hj (.node l k v r)]=some (aPJ (Tr.first l k v r))
 |0,l,k,v,r,h,_=>O
 |n+1,l,k,v,r,hn,h=>by
  show RF (OO (mU OO N1 [.t 2,.t 3,.t 4] 48 n)) N1 [.t 2,.t 3,.t 4] 48 _=_;refine Al (Qa rfl) ?_;have ih:=aKN n;generalize mU OO N1 [.t 2,.t 3,.t 4] 48 n=G at ih ⊢;have c:OO G 202=some (Ac Ld):=rfl;have d:OO G 203=some (Ac OQ):=rfl;have e:OO G 158=some (Ac G):=rfl;simp only[Wg,Tr.cnt,Tr.wgt]at h;unfold N1 Tr.first;cases l with
  |nil=>
   unfold aPJ;simp only[Hb,↓C2,G7,simprocAttr,Hm,bne_self_eq_false]
   (refine Au.intro (Am ?_) ?_;first|rfl|simp[AV,AF,Hu,Ai,Ac])
   simp only[Hb,↓C2,G7,simprocAttr,Hm]
   all_goals exact Y6
  |node a x y b=>
   simp only[Tr.cnt,Tr.wgt]at h;have s:=ih a x y b (by simp only[Tr.tall]at hn ⊢;omega) ⟨Xg,Xf⟩;have u:=Tr.cnt_first a x y b;have o:=Tr.wgt_first a x y b;unfold aPJ at s ⊢;have g:=Ht (l:=(Tr.first a x y b).2.2) (k:=k) (v:=v) (r:=r) ⟨O,O⟩;have w:=I9 (Tr.first a x y b).2.2 k v r ⟨Xg,Xf⟩;simp only[Hb,↓C2,G7,simprocAttr,Hm,Ab e,s,Ab c,Ab d,g,w]
   (refine Au.intro (Am ?_) ?_;first|rfl|simp[AV,AF,Hu,Ai,Ac])
   simp only[Hb,↓C2,G7,simprocAttr,Hm]
   all_goals exact Y6
def gD(l:Tr)(k v:Bs)(r:Tr)(h:Wg (.node l k v r)):rX [Hj (.node l k v r)]=some (.tup [.str (Tr.first l k v r).1,.str (Tr.first l k v r).2.1,Hj (Tr.first l k v r).2.2]):=
 aKN _ l k v r (by simp only[lL,D.dep.D.depL,Li];omega) h
def aEl:=Ar [(158,Ac rX),(233,Ac gB)]
def rW:=RF aEl aCV [.t 4] 22
def aBC:Kq rW 159:=Ap (Aj func159) (Aa aBD (Aa aBA Ad))
def gC(l r:Tr)(z:l.cnt+r.cnt<=900000)(f:l.wgt+r.wgt<=900000000000):rW [Hj l,Hj r]=some (Hj (Tr.both l r)):=by
 refine Al (Qa rfl) ?_;unfold aCV;cases r with
 |nil=>
  simp only[Hb,↓C2,G7,simprocAttr,Hm,bne_self_eq_false]
  all_goals exact Y6
 |node a x y b=>
  simp only[Tr.cnt,Tr.wgt]at z f;have s:=gD a x y b ⟨Xg,Xf⟩;have k:=Tr.cnt_first a x y b;have o:=Tr.wgt_first a x y b;have g:=Sb l (Tr.first a x y b).1 (Tr.first a x y b).2.1 (Tr.first a x y b).2.2 ⟨Xg,Xf⟩;unfold Tr.both;simp only;simp only[Hb,↓C2,G7,simprocAttr,Hm,Ae aEl 158,s,Ae aEl 233,g]
  all_goals exact Y6
def R7(G:List D->Option D):G8:=Ar [(233,Ac gB),(157,Ac G)]
def rY:=RT R7 N2 [.t 4,.t 5] 66
def aBE:Kq rY 157:=oE (Aj func157) λG h=>Aa aBA (Aa h Ad)
def aGl(z:Tr×Tr):D:= .tup [Hj z.1,Hj z.2]
def aKO:∀(n:Nat)(t:Tr)(q:Bs),t.tall<n->Wg t->mU R7 N2 [.t 4,.t 5] 66 n [Hj t,.str q]=some (aGl (t.split q))
 |0,t,q,h,_=>O
 |n+1,t,q,hn,h=>by
  show RF (R7 (mU R7 N2 [.t 4,.t 5] 66 n)) N2 [.t 4,.t 5] 66 _=_;refine Al (Qa rfl) ?_;have ih:=aKO n;generalize mU R7 N2 [.t 4,.t 5] 66 n=G at ih ⊢;have f:R7 G 233=some (Ac gB):=rfl;have a:R7 G 157=some (Ac G):=rfl;unfold N2;cases t with
  |nil=>
   unfold Tr.split aGl;simp only[Hb,↓C2,G7,simprocAttr,Hm,bne_self_eq_false]
   all_goals exact Y6
  |node l x y r=>
   simp only[Wg,Tr.cnt,Tr.wgt,Tr.tall]at hn h;unfold Tr.split;by_cases c1:Hp x q=true
   ·rw[if_pos c1];have s:=ih r q O ⟨O,O⟩;have k:=Tr.cnt_split q r;have o:=Tr.wgt_split q r;have g:=Sb l x y (r.split q).1 ⟨Xg,Xf⟩;unfold aGl at s ⊢;have p:AQ .lss (.str x) (.str q)=some (.bool (Hp x q)):=rfl;simp only[Hb,↓C2,G7,simprocAttr,Hm,p,c1,Ab a,s,Ab f,g]
    (refine Au.intro (Am ?_) ?_;first|rfl|simp[AV,AF,Hu,Ai,Ac])
    simp only[Hb,↓C2,G7,simprocAttr,Hm]
    all_goals exact Y6
   ·rw[if_neg c1];have c1:Hp x q=false:=by simpa using c1
    have s:=ih l q O ⟨O,O⟩;have k:=Tr.cnt_split q l;have o:=Tr.wgt_split q l;have g:=Sb (l.split q).2 x y r ⟨Xg,Xf⟩;unfold aGl at s ⊢;have p:AQ .lss (.str x) (.str q)=some (.bool (Hp x q)):=rfl;simp only[Hb,↓C2,G7,simprocAttr,Hm,p,c1,Ab a,s,Ab f,g]
    (refine Au.intro (Am ?_) ?_;first|rfl|simp[AV,AF,Hu,Ai,Ac])
    simp only[Hb,↓C2,G7,simprocAttr,Hm]
    all_goals exact Y6
def Se(t:Tr)(q:Bs)(h:Wg t):rY [Hj t,.str q]=some (.tup [Hj (t.split q).1,Hj (t.split q).2]):=
 aKO _ t q YF h
def aNk:=Ar [(104,Ac Ns)]
def aNy:=RF aNk aCY [.t 2] 6
def aO6:Kq aNy 102:=Ap (Aj func102) (Aa U7 Ad)
def aEH(t:Tr):aNy [.agg [Hj t]]=some (.int .i64 (t.cnt:Nat)):=by
 refine Al (Qa rfl) ?_;unfold aCY;have h:=La t;simp only[Hb,↓C2,G7,simprocAttr,Hm,Ae aNk 104,h]
 all_goals exact Y6
def aNj:=Ar [(172,Ac aEz)]
def aNx:=RF aNj aCX [.t 2] 6
def aO5:Kq aNx 103:=Ap (Aj func103) (Aa aBB Ad)
def aEG(t:Tr):aNx [.agg [Hj t]]=some (.int .i64 (t.wgt:Nat)):=by
 refine Al (Qa rfl) ?_;unfold aCX;have h:=Sd t;simp only[Hb,↓C2,G7,simprocAttr,Hm,Ae aNj 172,h]
 all_goals exact Y6
def aNl:=Ar [(138,Ac aEF)]
def sA:=RF aNl aC4 [.cell (some 1) 6] 13
def aBG:Kq sA 83:=Ap (Aj func83) (Aa aO4 Ad)
def Nt(t:Tr)(k v:Bs)(z:t.cnt<=800000)(f:t.wgt+k.length+v.length<=800000000000):sA [.agg [Hj t],.str k,.str v]=some (.agg [Hj (t.put k v)]):=by
 refine Al (Qa rfl) ?_;unfold aC4;have h:=aEE t k v z f;simp only[Hb,↓C2,G7,simprocAttr,Hm,Ae aNl 138,h]
 all_goals exact Y6
def Re{S:G8}{q:Bs}{Q:Ex->St->Prop}(j:S 62=some (Ac O_)):∀(t:Tr)(k:St) g,k.s 1= .str q->k.s 6=Hj t->(∀v o,t.get q=some v->o.s 4= .str v->o.s 5= .bool true->Q .ret o)->(t.get q=none->∀o,Q (.exit 0) o)->Be S [] Na Q k g
 | .nil,k,g,h1,h6,hr,he=>by
  refine Af Na.eq_1 ?_;simp only[Hb,↓C2,G7,simprocAttr,Hm,h1,h6,bne_self_eq_false];exact he rfl _
 | .node l x y r,k,g,h1,h6,hr,he=>by
  have e:=Re (q:=q) (Q:=Q) j l;have c:=Re (q:=q) (Q:=Q) j r;have z:O_ [.str q,.str x]=some (.int .i64 (CV q x)):=rfl;refine Af Na.eq_1 ?_;obtain⟨m,f,b⟩:=k;simp only at h1 h6;unfold Tr.get at hr he;by_cases c1:Hp q x=true
  ·rw[if_pos c1]at hr he;have u:(CV q x<0)=True:=by rw[U4];exact eq_true c1
   simp only[Hb,↓C2,G7,simprocAttr,Hm,h1,h6,Ml,Ab j,z,u];exact e _ _ h1 rfl hr he
  ·rw[if_neg c1]at hr he;have u:(CV q x<0)=False:=by rw[U4];exact eq_false c1
   by_cases n:Hp x q=true
   ·rw[if_pos n]at hr he;have i:(0<CV q x)=True:=by rw[VH];exact eq_true n
    simp only[Hb,↓C2,G7,simprocAttr,Hm,h1,h6,Ab j,z,u,i];exact c _ _ h1 rfl hr he
   ·rw[if_neg n]at hr he;have i:(0<CV q x)=False:=by rw[VH];exact eq_false n
    simp only[Hb,↓C2,G7,simprocAttr,Hm,h1,h6,Ab j,z,u,i];exact hr y _ rfl rfl rfl
def aNv:=Ar [(62,Ac O_)]
def gJ:=RF aNv aDl [.t 4,.t 5] 36
def kE:Kq gJ 27:=Ap (Aj func27) (Aa oY Ad)
def Sh(t:Tr)(q:Bs):gJ [.agg [Hj t],.str q]=some (.tup [.str ((t.get q).getD []),.bool (t.get q).isSome]):=by
 refine Al (Qa rfl) ?_;have j:aNv 62=some (Ac O_):=rfl;unfold aDl;simp only[Hb,↓C2,G7,simprocAttr,Hm];refine Re (q:=q) j t _ _ rfl rfl (λv r a p m=>?_) (λa r=>?_)
 ·rw[a];simp only[Hb,↓C2,G7,simprocAttr,p,m]
  all_goals exact Y6
 ·rw[a];simp only[Hb,↓C2,G7,simprocAttr]
  all_goals exact Y6
def Rd{S:G8}{q:Bs}{Q:Ex->St->Prop}(z:S 104=some (Ac Ns)):∀(t:Tr)(r:Nat)(v:St) g,t.cnt<=900000->r+t.cnt<=900000->v.s 1= .str q->v.s 5= .int .i64 (r:Int)->v.s 6=Hj t->(∀o,o.s 5= .int .i64 ((r+t.rank q:Nat):Int)->Q (.exit 0) o)->Be S [] M6 Q v g
 | .nil,r,v,g,hc,hr,h1,h5,h6,he=>by
  refine Af M6.eq_1 ?_;simp only[Hb,↓C2,G7,simprocAttr,Hm,h1,h6,bne_self_eq_false];exact he _ h5
 | .node l x y t,r,v,g,hc,hr,h1,h5,h6,he=>by
  have e:=Rd (q:=q) (Q:=Q) z l;have c:=Rd (q:=q) (Q:=Q) z t;have a:=La l;simp only[Tr.cnt]at hc hr;have w:IntKind.i64.wrap (1+(l.cnt:Int))=((1+l.cnt:Nat):Int):=Xh
  have m:IntKind.i64.wrap ((r:Int)+((1+l.cnt:Nat):Int))=((r+(1+l.cnt):Nat):Int):=Xh
  refine Af M6.eq_1 ?_;obtain⟨j,f,b⟩:=v;simp only at h1 h5 h6;have p:AQ .lss (.str x) (.str q)=some (.bool (Hp x q)):=rfl;unfold Tr.rank at he;by_cases c1:Hp x q=true
  ·rw[if_pos c1]at he;simp only[Hb,↓C2,G7,simprocAttr,Hm,h1,h5,h6,Ml,p,c1,Ab z,a,w,m];exact c (r+(1+l.cnt)) _ _ O O h1 rfl rfl (λo h=>he o (by rw[h];congr 2;omega))
  ·rw[if_neg c1]at he;have c1:Hp x q=false:=by simpa using c1
   simp only[Hb,↓C2,G7,simprocAttr,Hm,h1,h5,h6,Ml,p,c1];exact e r _ _ O O h1 h5 rfl he
def aNs:=Ar [(104,Ac Ns)]
def aNC:=RF aNs aDc [.t 4] 34
def aPk:Kq aNC 49:=Ap (Aj func49) (Aa U7 Ad)
def aE0(t:Tr)(q:Bs)(n:t.cnt<=900000):aNC [.agg [Hj t],.str q]=some (.int .i64 (t.rank q:Nat)):=by
 refine Al (Qa rfl) ?_;have z:aNs 104=some (Ac Ns):=rfl;unfold aDc;simp only[Hb,↓C2,G7,simprocAttr,Hm];refine Rd (q:=q) z t 0 _ _ n O rfl rfl rfl (λr h=>?_);rw[Qj]at h;simp only[Hb,↓C2,G7,simprocAttr,h]
 all_goals exact Y6
def atD(z:Option (Bs×Bs)):D:= .tup [.str (z.getD ([],[])).1,.str (z.getD ([],[])).2,.bool z.isSome]
def Rc{S:G8}{Q:Ex->St->Prop}(z:S 104=some (Ac Ns)):∀(t:Tr)(i:Nat)(st:St) g,t.cnt<=900000->i<=900000->st.s 1= .int .i64 (i:Int)->st.s 7=Hj t->(∀k v o,t.at_ i=some (k,v)->o.s 4= .str k->o.s 5= .str v->o.s 6= .bool true->Q .ret o)->(t.at_ i=none->∀o,Q (.exit 0) o)->Be S [] M1 Q st g
 | .nil,i,st,g,hc,hi,h1,h7,hr,he=>by
  refine Af M1.eq_1 ?_;simp only[Hb,↓C2,G7,simprocAttr,Hm,h1,h7,bne_self_eq_false];exact he rfl _
 | .node l x y r,i,st,g,hc,hi,h1,h7,hr,he=>by
  have i1:=Rc (Q:=Q) z l;have c:=Rc (Q:=Q) z r;have a:=La l;simp only[Tr.cnt]at hc;have w:IntKind.i64.wrap ((l.cnt:Int)+1)=(l.cnt:Int)+1:=Hy O O;refine Af M1.eq_1 ?_;obtain⟨j,q,b⟩:=st;simp only at h1 h7;unfold Tr.at_ at hr he;by_cases c1:i<l.cnt
  ·rw[if_pos c1]at hr he;have u:((i:Int)<l.cnt)=True:=eq_true O;simp only[Hb,↓C2,G7,simprocAttr,Hm,h1,h7,Ml,Ab z,a,u];exact i1 i _ _ O hi h1 rfl hr he
  ·rw[if_neg c1]at hr he;have u:((i:Int)<l.cnt)=False:=eq_false O;by_cases n:l.cnt<i
   ·rw[if_pos n]at hr he;have e:((l.cnt:Int)<i)=True:=eq_true O;have m:IntKind.i64.wrap ((i:Int)-((l.cnt:Int)+1))=((i-(l.cnt+1):Nat):Int):=by rw[Hy O O];omega
    simp only[Hb,↓C2,G7,simprocAttr,Hm,h1,h7,Ml,Ab z,a,u,e,w,m];exact c (i-(l.cnt+1)) _ _ O O rfl rfl hr he
   ·rw[if_neg n]at hr he;have e:((l.cnt:Int)<i)=False:=eq_false O;simp only[Hb,↓C2,G7,simprocAttr,Hm,h1,h7,Ml,Ab z,a,u,e]
    (refine Au.intro (Am ?_) ?_;first|rfl|simp[AV,AF,Hu,Ai,Ac])
    simp only[Hb,↓C2,G7,simprocAttr,Hm];exact hr x y _ rfl rfl rfl rfl
def aNr:=Ar [(104,Ac Ns)]
def aNB:=RF aNr aDb [.t 4,.t 5,.t 6] 48
def aPj:Kq aNB 50:=Ap (Aj func50) (Aa U7 Ad)
def aEZ(t:Tr)(i:Nat)(n:t.cnt<=900000)(hi:i<=900000):aNB [.agg [Hj t],.int .i64 (i:Nat)]=some (atD (t.at_ i)):=by
 refine Al (Qa rfl) ?_;have z:aNr 104=some (Ac Ns):=rfl;unfold aDb;have f:((i:Int)<0)=False:=eq_false O;simp only[Hb,↓C2,G7,simprocAttr,Hm,f];refine Rc z t i _ _ n hi rfl rfl (λk v r a p m o=>?_) (λa r=>?_)
 ·rw[a];unfold atD;simp only[Hb,↓C2,G7,simprocAttr,p,m,o]
  all_goals exact Y6
 ·rw[a];unfold atD;simp only[Hb,↓C2,G7,simprocAttr]
  all_goals exact Y6
def fD(x:UInt8):∀l:Bs,Tr.beyB (l++[x])=if x<255 then some (l++[x+1])else Tr.beyB l
 |[]=>by
  show(match Tr.beyB []with|some e=>some (x::e)|none=>if x<255 then some [x+1]else none)=_;rfl
 |y::l=>by
  have ih:=fD x l;show(match Tr.beyB (l++[x])with|some e=>some (y::e)|none=>if y<255 then some [y+1]else none)=_;rw[ih];by_cases c:x<255
  ·rw[if_pos c,if_pos c];rfl
  ·rw[if_neg c,if_neg c];rfl
def cK{S:G8}{p:Bs}{Q:Ex->St->Prop}(k:p.length<=1000000):∀(j:Nat)(v:St) g,j<=p.length->v.s 0= .str p->v.s 4= .int .i64 ((j:Int)-1)->(∀e r,Tr.beyB (p.take j)=some e->r.s 2= .str e->r.s 3= .bool true->Q .ret r)->(Tr.beyB (p.take j)=none->∀r,Q (.exit 0) r)->Be S [] MY Q v g
 |0,v,g,hj,h0,h4,hr,he=>by
  refine Af MY.eq_1 ?_;have u:v.s 4= .int .i64 (-1):=h4;have t:((0:Int)<=-1)=False:=eq_false V;simp only[Hb,↓C2,G7,simprocAttr,h0,u,t];exact he rfl _
 |j+1,v,g,hj,h0,h4,hr,he=>by
  have ih:=cK (S:=S) (Q:=Q) k j;refine Af MY.eq_1 ?_;obtain⟨m,o,b⟩:=v;simp only at h0 h4;have y:((j+1:Nat):Int)-1=(j:Int):=O
  rw[y]at h4;have t:((0:Int)<=(j:Int))=True:=eq_true O;have q:p[j]?=some (p[j]' O):=Qd O;generalize (p[j]' O)=x at q;have n:p.take (j+1)=p.take j++[x]:=by rw[List.take_add_one,q];rfl
  rw[n,fD]at hr he;have w:IntKind.i64.wrap ((j:Int)-1)=(j:Int)-1:=Hy O O;by_cases c:x<255
  ·rw[if_pos c]at hr he;have c':x.toNat<255:=c;have i:((x.toNat:Int)<255)=True:=eq_true O;have a:IntKind.u8.wrap ((x.toNat:Int)+1)=((x.toNat+1:Nat):Int):=by
    show((x.toNat:Int)+1) % 256=_;omega
   have z:UInt8.ofNat (x.toNat+1)=x+1:=by
    apply UInt8.toNat_inj.1;rw[UInt8.toNat_ofNat',UInt8.toNat_add];rfl
   have d:((j:Int)<=p.length)=True:=eq_true O;have f:AQ .add (.str (p.take j)) (.str [x+1])=some (.str (p.take j++[x+1])):=I6 (by rw[Za];simp only[Qb,Qg];omega);simp only[Hb,↓C2,G7,simprocAttr,h0,h4,t,d,q,i,a,z,Qm,QK,Q2,and_self,f]
   (refine Au.intro (Am ?_) ?_;first|rfl|simp[AV,AF,Hu,Ai,Ac])
   simp only[Hb,↓C2,G7,simprocAttr];exact hr _ _ rfl rfl rfl
  ·rw[if_neg c]at hr he;have c':¬x.toNat<255:=c;have i:((x.toNat:Int)<255)=False:=eq_false O;simp only[Hb,↓C2,G7,simprocAttr,h0,h4,t,q,i,w,Qm];exact ih _ _ O h0 rfl hr he
def aNq:=Ar [(105,Ac yU)]
def aNA:=RF aNq aDa [.t 4] 8
def aPi:Kq aNA 51:=Ap (Aj func51) (Aa aKa Ad)
def aEY(s t:Bs):aNA [.str s,.str t]=some (.bool (A7 s t)):=by
 refine Al (Qa rfl) ?_;unfold aDa;have h:yU [.str s,.str t]=some (.bool (A7 s t)):=rfl;simp only[Hb,↓C2,G7,simprocAttr,Ae aNq 105,h]
 all_goals exact Y6
theorem qR{a:Ak}:∀{l:Bs} {b:Ak},(Ng a b l).1=0->∀c∈l,Bp a (c.toNat:Int)=0
 |[],b,h,c,hc=>by cases hc
 |x::r,b,h,c,hc=>by
  unfold Ng at h;split at h
  ·omega
  ·rename_i u;rcases Qn.1 hc with rfl|hc
   ·exact Decidable.not_not.1 u
   ·exact qR h c hc
def OK{a:Ak}(h:Ca a=0){c:UInt8}(z:c∈BH a.op):Bp a (c.toNat:Int)=0:=by
 grind [Ca,qR]
def Mj{a:Ak}(h:Ca a=0)(z:(112:UInt8)∈BH a.op):Ay a.pa=0:=OK h z
def eU{a:Ak}(h:Ca a=0)(z:(113:UInt8)∈BH a.op):Ay a.ot=0:=OK h z
def vH:∀op:Nat,9<=op->op<=18->(112:UInt8)∈BH (op:Int):=by
 intro op u y;have:∀op,op<19->9<=op->(112:UInt8)∈BH (op:Nat):=Xk
 exact this op O u
def aGM{a:Ak}(h:Ca a=0)(u:9<=a.op)(y:a.op<=18):Ay a.pa=0:=by
 have:=vH a.op.toNat O O;rw[QW O]at this;exact Mj h this
def P0{a:Ak}(h:Ca a=0)(u:a.op=18):Ay a.ot=0:=by
 refine eU h ?_;rw[u];decide+kernel
theorem Cu{s:Bs}(h:Ay s=0):s.length<=64:=by
 grind [Ay]
def aRX{y:Ry}(h:Mo y=0):Is y≠[]:=by
 unfold Is;rw[if_pos h];intro e;have f:=aAp y;cases y<;>simp[Om,spJ,Lib.join]at e<;>(try split at e)<;>simp[]at e
def Gr(s:Bs):Prop:=∃y,Mo y=0∧ryN y∧s=Is y
def Gr.ne{s:Bs}:Gr s->s≠[]:=λ⟨y,h,_,e⟩=>by rw[e];exact aRX h
def Wf(s:Bs):Prop:=∀c∈s,c≠32∧c≠44
def eT{s:Bs}(h:∀j,j<s.length->Hs s j≠32∧Hs s j≠44):Wf s:=λc z=>by
 obtain⟨j,q,rfl⟩:=QI z;have:=h j q;unfold Hs at this;rw[QO,Qd q]at this;simp only[Q4]at this;exact⟨λe=>by rw[e]at this;exact this.1 rfl,λe=>by rw[e]at this;exact this.2 rfl⟩
theorem wV{s:Bs}(h:Wf s):Rt s 32=false∧Rt s 44=false:=by
 constructor<;>(unfold Rt;rw[Zj];intro c z;simp only[beq_iff_eq])
 ·exact(h c z).1
 ·exact(h c z).2
def jJ{s:Bs}(h:Wf s)(u:s≠[])(y:s≠[45])(i:s.length<=64):jK s=true:=by
 grind [jK,wV]
def jM{s:Bs}{i:Nat}(hi:i<s.length)(h:D5 (DU s i).1=true):1<=(DU s i).2∧∀j,i<=j->j<i+(DU s i).2->Hs s j≠32∧Hs s j≠44:=by
 grind [OM,EP,DU,D5]
def Ol{s:Bs}:∀(f p n:Nat),s.length<=p+f->DE s f p n≠4->∀j,p<=j->j<s.length->Hs s j≠32∧Hs s j≠44
 |0,p,n,hf,h,j,h1,h2=>O
 |f+1,p,n,hf,h,j,h1,h2=>by
  unfold DE at h;rw[if_pos O]at h;split at h
  ·rename_i i;obtain⟨t,z⟩:=jM O i;by_cases q:j<p+(DU s p).2
   ·exact z j h1 q
   ·exact Ol f _ _ O h j O h2
  ·exact absurd rfl h
def jD{s:Bs}(h:E7 s=0):Wf s∧s≠[]∧s≠[45]:=by
 unfold E7 at h;split at h
 ·cases h
 ·rename_i u;exact⟨eT λj q=>Ol s.length 0 0 O (by rw[h];decide) j (Qf _) q,λe=>u (.inl e),λe=>u (.inr (.inr (.inr e)))⟩
theorem grade_parts:∀{l:List Bs} {w:Bool},FZ w l=some false->∀p∈l,E7 p=0
 |[],w,h,p,hp=>by cases hp
 |x::r,w,h,p,hp=>by
  unfold FZ at h;split at h
  ·cases h
  ·rename_i u;have m:∀{w:Bool} {l:List Bs},FZ w l=some false->w=false:=by
    intro w l;induction l generalizing w with
    |nil=>intro h;simpa[FZ]using h
    |cons y t ih=>
     intro h;unfold FZ at h;split at h
     ·cases h
     ·grind
   rcases Qn.1 hp with rfl|hp
   ·grind [Ov]
   ·exact grade_parts h p hp
def Oq{s:Bs}(h:Ay s=0):∀p∈splitC 47 s,E7 p=0:=by
 grind [Ay,IT,grade_parts]
def S0:∀(a b:Bs),splitC 47 (a++47::b)=splitC 47 a++splitC 47 b
 |[],b=>by
  show splitC 47 (47::b)=_
  conv=>lhs;unfold splitC
  rfl
 |c::r,b=>by
  have ih:=S0 r b;show splitC 47 (c::(r++47::b))=_
  conv=>lhs;unfold splitC
  conv=>rhs;arg 1;unfold splitC
  rw[ih];split
  ·rfl
  ·grind [splitC,Ga]
def S1:∀(s:Bs),∃t,splitC 47 s=(BW s 47).1::t∧((BW s 47).2.2=true->(BW s 47).1.length+1<=s.length)∧((BW s 47).2.2=false->(BW s 47).1=s)
 |[]=>⟨[],rfl,λh=>by simp[BW,Lib.indexByte]at h,λ_=>rfl⟩
 |c::r=>by
  obtain⟨t,u,y,i⟩:=S1 r;by_cases n:c=47
  ·subst n;have e:Lib.indexByte (47::r) 47=0:=by unfold Lib.indexByte;simp
   refine⟨splitC 47 r,?_,?_,?_⟩
   ·simp_all [BW,splitC]
   ·grind [BW]
   ·grind [BW]
  ·have z:(c==47)=false:=by simpa using n
   unfold splitC;rw[if_neg n,u];refine⟨t,?_⟩;have e:Lib.indexByte (c::r) 47=if Lib.indexByte r 47==-1 then-1 else Lib.indexByte r 47+1:=by
    conv=>lhs;unfold Lib.indexByte
    rw[z];rfl
   rcases kG r 47 with e1|⟨e1,m⟩
   ·have j:BW r 47=(r,[],false):=by unfold BW;rw[e1];rfl
    have x:BW (c::r) 47=(c::r,[],false):=by unfold BW;rw[e,e1];rfl
    rw[j,x];exact⟨rfl,λh=>Xc,λ_=>rfl⟩
   ·have o:(Lib.indexByte r 47==-1)=false:=by rw[beq_eq_false_iff_ne];omega
    have f:Lib.indexByte (c::r) 47=Lib.indexByte r 47+1:=by rw[e,o];rfl
    generalize v:Lib.indexByte r 47=q at *;have a:(q+1).toNat=q.toNat+1:=O
    have j:BW r 47=(r.take q.toNat,r.drop (q.toNat+1),true):=by unfold BW;rw[v,if_neg O]
    have x:BW (c::r) 47=(c::r.take q.toNat,r.drop (q.toNat+1),true):=by unfold BW;rw[f,if_neg O,a];rfl
    rw[j,x];refine⟨rfl,λ_=>?_,λh=>Xc⟩;simp only[Qb,Za];omega
def xP{s z:Bs}(h:Bj s z=true):Dc s z=s∨s=z++47::Dc s z:=by
 unfold Bj at h;unfold Dc;by_cases p:z=[]
 ·simp_all
 ·rw[if_neg p]at h ⊢;rw[QB]at h;rw[if_pos h.1,if_pos h.2];right;have u:s.take z.length=z:=by simpa[A7]using h.1
  have y:(s.drop z.length).take 1=[47]:=by simpa[A7]using h.2
  have w:s=z++s.drop z.length:=by
   conv=>lhs;rw[←Q_ z.length s,u]
  have m:s.drop z.length=47::(s.drop z.length).drop 1:=by
   conv=>lhs;rw[←Q_ 1 (s.drop z.length),y]
   rfl
  conv=>lhs;rw[w,m]
theorem lQ{s z:Bs}(j:Ay s=0)(h:(Ck s z).2=true):jK (Ck s z).1=true:=by
 have v:=Cu j;have k:=Oq j;have o:Bj s z=true:=by
  grind [Ck]
 have w:=xP o;have hl:=Tb s z;obtain⟨t,e1,m,a⟩:=S1 (Dc s z);have y:(BW (Dc s z) 47).1∈splitC 47 s:=by
  rcases w with e|e
  ·simp_all
  ·rw[e,S0,←e,e1];exact List.mem_append_right _ (Qo ..)
 obtain⟨c1,q,r⟩:=jD (k _ y);unfold Ck;rw[if_neg (by rw[o];decide)];split
 ·rename_i u;have:=m u;refine jJ (λc n=>?_) U (λe=>?_) Xb
  ·rcases QH.1 n with h|h
   ·exact c1 c h
   ·simp_all
  ·have:=congrArg ZP e;simp at this
 ·rename_i u;have:=a XS;rw[this]at c1 q r;exact jJ c1 q r (show(Dc s z).length<=64 by omega)
def P3{s:Bs}:∀(f p:Nat),s.length<=p+f->MK s f p=true->∀j,p<=j->j<s.length->D7 (Hs s j)=true
 |0,p,hf,h,j,h1,h2=>O
 |f+1,p,hf,h,j,h1,h2=>by
  unfold MK at h;rw[if_pos O,QB]at h;by_cases e:j=p
  ·rw[e];exact h.1
  ·exact P3 f (p+1) O h.2 j O h2
def aG2{s:Bs}(h:BX s=true):jK s=true:=by
 unfold BX at h;simp only[QB,decide_eq_true_eq]at h;have z:∀j,j<s.length->D7 (Hs s j)=true:=λj q=>P3 s.length 0 O h.2 j (Qf _) q
 have o:∀j,j<s.length->Hs s j≠32∧Hs s j≠44∧Hs s j≠45:=λj q=>by
  have:=z j q;unfold D7 at this;simp only[Zt,decide_eq_true_eq]at this;omega
 refine jJ (eT λj q=>⟨(o j q).1,(o j q).2.1⟩) (λe=>by rw[e]at h;simp at h) (λe=>?_) O;have:=(o 0 O).2.2;rw[e]at this;exact this rfl
def eR{zs:List Bs}{x:Bs}(h:x∈Lib.compact zs):x∈zs:=by
 unfold Lib.compact Lib.compactUpTo at h;obtain⟨j,q,rfl⟩:=Qp.1 h;have u:=List.mem_range.1 (QQ.1 q).1;rw[getElem!_pos _ _ XS];simp
def O3{l:List Bs}{x:Bs}(h:x∈iR l):x∈l:=(ZB l _).mem_iff.1 h
theorem aP3{z:Bs}{l:List Bs}{x:Bs}(h:x∈qU z l):∃s∈l,(Ck s z).2=true∧(Ck s z).1=x:=by
 have:=O3 (eR h);unfold Gn at this;obtain⟨s,g,e⟩:=List.mem_filterMap.1 this;split at e
 ·simp_all
 ·cases e
def aP4(z:Bs)(l:List Bs):(qU z l).length<=l.length:=by
 unfold qU;refine QG (Lib.compact_length_le _) ?_;unfold iR;rw[Qs];exact Q5 _ _
theorem Ou{l:List Bs}{s:Bs}(h:s∈B4 l):Ay s=0:=by
 grind [B4,Cx,Bl]
def uI(l:List Bs):(B4 l).length<=l.length:=Q5 _ _
def aDF(z:Bs)(l:List Bs):(((qU z (B4 l)).take 64).any λs=>!jK s)=false:=by
 grind [aP3,lQ,Ou]
def vE(l:List Bs):0<=IT l∧IT l<=99:=by
 grind [IT]
def Ln(s:Bs):0<=Ay s∧Ay s<=99:=by
 unfold Ay;split
 ·decide
 ·exact vE _
def aCk(b:Bool):0<=Df b∧Df b<=99:=by cases b<;>decide
def aAv(r:Rl)(l:List Rl):0<=Ib r l∧Ib r l<=99:=by
 unfold Ib;have:=Ln r.1
 repeat' split
 all_goals omega
def S7(l:List Rl):∀f j,0<=D4 l f j∧D4 l f j<=99
 |0,j=>by unfold D4;decide
 |f+1,j=>by
  unfold D4;have:=aAv (CS l j) (l.take j);have:=S7 l f (j+1)
  repeat' split
  all_goals omega
def UP(l:List Rl):0<=Cw l∧Cw l<=99:=by
 unfold Cw;have:=S7 l l.length 0;split<;>omega
def TN(a:Ak)(c:Int):0<=Bp a c∧Bp a c<=99:=by
 unfold Bp;have:=Ln a.pa;have:=Ln a.ot;have:=UP a.rs
 repeat' split
 all_goals first|exact aCk _|omega
def qS(a:Ak):∀(l:Bs)(b:Ak),0<=(Ng a b l).1∧(Ng a b l).1<=99
 |[],b=>by unfold Ng;simp
 |c::r,b=>by
  unfold Ng;have:=TN a (c.toNat:Int);have:=qS a r (Eg b (c.toNat:Int));split<;>omega
def wW(a:Ak):0<=Ca a∧Ca a<=99:=by
 unfold Ca;have:=qS a (BH a.op) (I4 a)
 repeat' split
 all_goals omega
def aGG(v:Vw)(a:Ak):0<=Im v a∧Im v a<=99:=by
 unfold Im;have:=wW a
 repeat' split
 all_goals omega
def lR{v:Vw}{a:Ak}(h:Im v a=0):Ca a=0:=by
 grind [Im]
def aR6{a:Ak}(h:Ca a=0)(f:0<=a.op):1<=a.op∧a.op<=18:=by
 have k:EE a.op≠[]:=λe=>by unfold Ca at h;rw[if_pos e]at h;cases h
 unfold EE at k;have u:a.op.toNat<19:=by
  rcases ZR a.op.toNat 19 with h|h
  ·exact h
  ·simp_all [Rx]
 have y:a.op.toNat≠0:=λe=>by rw[e]at k;exact k rfl
 omega
def aGi(n p:Bs)(l:List Rl):0<=LV n p l∧LV n p l<=99:=by
 unfold LV;have:=UP l
 repeat' split
 all_goals omega
def Nx{n p:Bs}{l:List Rl}(h:LV n p l=0):BX n=true:=by
 grind [LV]
def aBf(l:List Tk)(k:Tk):((∃z,Ig l k=(some z,0))∧LV k.1 k.2.1 k.2.2.2=0∧k.2.1≠[]∧A4 l k.1=false∧A4 l k.2.1=true∧(Ig l k).1=some (EX l k))∨((Ig l k).1=none∧1<=(Ig l k).2∧(Ig l k).2<=99):=by
 unfold Ig;have h:=aGi k.1 k.2.1 k.2.2.2;by_cases u:LV k.1 k.2.1 k.2.2.2≠0
 ·rw[if_pos u];exact .inr ⟨rfl,Xa⟩
 rw[if_neg u];by_cases y:k.2.1=[]
 ·rw[if_pos y];exact .inr ⟨rfl,V,V⟩
 rw[if_neg y];by_cases i:A4 l k.1=true
 ·rw[if_pos i];exact .inr ⟨rfl,V,V⟩
 rw[if_neg i];by_cases p:A4 l k.2.1=false
 ·rw[if_pos p];exact .inr ⟨rfl,V,V⟩
 rw[if_neg p];by_cases m:GY k.2.2.2 (Bu l (LB l k.2.1)).2.2.2=false
 ·rw[if_pos m];exact .inr ⟨rfl,V,V⟩
 rw[if_neg m];exact .inl ⟨⟨_,rfl⟩,Decidable.not_not.1 u,y,by simpa using i,Xw,rfl⟩
structure V2 (l:List Tk):Prop where
 sort:GG l
 tree:∃r,HV l r∧r []=0
 name:∀k∈l,BX k.1=true
 par:∀k∈l,k.2.1=[]∨∃u∈l,u.1=k.2.1
 nop:∀k∈l,k.2.1=[]->k.1=[114,111,111,116]
 rt:∀k∈l,k.1=[114,111,111,116]->k.2.2.2=[([],63)]
def V2.root{l:List Tk}(h:V2 l){t:Tk}(p:t∈l):∃k∈l,k.1=[114,111,111,116]:=by
 obtain⟨r,j,_⟩:=h.tree;have z:∀(n:Nat)(t:Tk),t∈l->r t.1<=n->∃k∈l,k.1=[114,111,111,116]:=by
  intro n;induction n with
  |zero=>
   intro t p g;have:=j.up t p;omega
  |succ n ih=>
   intro t p g;rcases h.par t p with e|⟨u,c,e⟩
   ·exact⟨t,p,h.nop t p e⟩
   ·have:=j.up t p;exact ih u c (by rw[e];omega)
 exact z _ t p (Qe _)
def tH{l:List Tk}(h:GG l):l.Pairwise λt u=>t.1≠u.1:=by
 rw[QD];intro i j hi q z e;have:=h i j z q;unfold Bu at this;rw[QO,QO,Qd hi,Qd q]at this;simp only[Q4]at this;rw[e,bl_irr]at this;cases this
def Lx{l:List Tk}{s:Bs}(h:A4 l s=true):∃k∈l,k.1=s:=by
 grind [A4,TV,WB]
def aCc{l:List Tk}{s:Bs}(g:GG l)(h:A4 l s=false):∀k∈l,k.1≠s:=λk y e=>by
 obtain⟨j,q,rfl⟩:=QI y;have:=(dO g q).2;unfold Bu at this;rw[QO,Qd q]at this;simp only[Q4]at this;rw[e,h]at this;cases this
def U_{s:Bs}(h:BX s=true):s≠[]:=λe=>by rw[e]at h;cases h
def Dy{l:List Tk}{k x:Tk}:x∈EX l k↔x∈l∨x=k:=by
 unfold EX;rw[QH,Qn];constructor
 ·grind
 ·rintro(h|h)
  ·rw[←Q_ (LB l k.1) l,QH]at h;rcases h with h|h
   ·exact .inl h
   ·exact .inr (.inr h)
  ·exact .inr (.inl h)
def PL(l:List Tk)(k:Tk):(EX l k).length=l.length+1:=by
 grind [EX]
def aBX{l:List Tk}{k:Tk}(h:V2 l)(q:LV k.1 k.2.1 k.2.2.2=0)(y:A4 l k.1=false)(i:A4 l k.2.1=true):V2 (EX l k):=by
 obtain⟨r,j,v⟩:=h.tree;have g:=Nx q;have hs:GG (EX l k):=tJ h.sort y;have a:=aCc h.sort y;obtain⟨u,hu,c⟩:=Lx i;have qa:k.2.1≠k.1:=λe=>a u hu (c.trans e)
 refine⟨hs,⟨λs=>if s=k.1 then l.length+1 else r s,⟨λt ht=>?_,λt ht=>?_,tH hs⟩,?_⟩,λt ht=>?_,λt ht=>?_,λt ht z=>?_,λt ht z=>?_⟩
 ·rcases Dy.1 ht with ht|rfl
  ·have n:t.1≠k.1:=a t ht;have m:t.2.1≠k.1:=λe=>by
    rcases h.par t ht with e3|⟨x,w,e3⟩
    ·simp_all [U_,e3]
    ·exact a x w (e3.trans e)
   simp only[if_neg n,if_neg m];exact j.up t ht
  ·simp only[if_neg qa,if_true];have:=j.top u hu;rw[c]at this;omega
 ·rw[PL];rcases Dy.1 ht with ht|rfl
  ·simp only[if_neg (a t ht)];have:=j.top t ht;omega
  ·simp
 ·simp_all [Bs,U_]
 ·rcases Dy.1 ht with ht|rfl
  ·exact h.name t ht
  ·exact g
 ·rcases Dy.1 ht with ht|rfl
  ·rcases h.par t ht with e|⟨x,w,e⟩
   ·exact .inl e
   ·exact .inr ⟨x,Dy.2 (.inl w),e⟩
  ·exact .inr ⟨u,Dy.2 (.inl hu),c⟩
 ·rcases Dy.1 ht with ht|rfl
  ·exact h.nop t ht z
  ·exact absurd (c.trans z) (U_ (h.name u hu))
 ·rcases Dy.1 ht with ht|rfl
  ·exact h.rt t ht z
  ·obtain⟨x,w,e⟩:=h.root hu;exact absurd (e.trans z.symm) (a x w)
def aLi:=y0 Tryz.f165 [] []
def Vv:=y1 Tryz.f99 5 [] []
def aLN:=y0 Tryz.f99 [] [(5,Vv)]
def aXo:=Ar []
def aQF:=RF aXo aLi [.t 2] 24
def aTH:Kq aQF 165:=Ap (Aj func165) Ad
def w8{x:Int}(f:0<=x)(u:x<256):IntKind.u8.wrap x=x:=by show x % 256=x;omega
def orE:∀x:Nat,x<16->∀y:Nat,y<16->IntKind.u8.wrap (bits .or .i64 (IntKind.i64.wrap ((x:Int)*2 ^ min (4:Int).toNat IntKind.i64.bits)) (y:Int))=((16*x+y:Nat):Int):=V
def aVB:=Ar [(165,Ac aQF)]
def aQT:=RF aVB aLN [.t 2,.t 3] 47
def aTZ:Kq aQT 99:=Ap (Aj func99) (Aa aTH Ad)
def opV(x:Op1):Prop:=x.2.1.length<=100∧x.2.2.length<=400∧((x.1=1∧x.2.1≠[])∨(x.1=2∧x.2.1≠[]∧x.2.2=[])∨(x.1=3∧x.2.2=[]))
def aHt(k:Int)(p:Bs)(n:Int):(An k p n).length<=p.length+8:=by
 unfold An
 repeat' split
 all_goals (first|(simp only[Qh,Qb,Qg];omega)|exact Qf _)
def opK(x:Op1):Prop:=opV x∧(x.1≠3->Bl (Ao x.2.1).1 (Ao x.2.1).2.1 (Ao x.2.1).2.2=0)
theorem Rs(p s:Bs):A7 (p++s) p=true:=XB
def PW{s:Bs}(h:Ay s=0):1<=s.length:=by
 cases s with
 |nil=>exact absurd h V
 |cons c s=>simp
def Bn{k n:Int}{name:Bs}(h:Bl k name n=0):Ao (An k name n)=(k,name,n):=by
 unfold An;rw[if_neg (λe=>e h)];unfold Bl at h;by_cases u:k=1
 ·grind [Ao,Rs]
 rw[if_neg u]at h ⊢;by_cases y:k=2
 ·subst y;rw[if_pos rfl]at h;split at h
  ·rename_i c;obtain⟨n1,n2,j⟩:=c;have hl:=PW j;rw[if_pos rfl];have z:(IntKind.u8.wrap n).toNat=n.toNat:=by
    have:IntKind.u8.wrap n=n:=by show n % 256=n;omega
    rw[this]
   rw[z];have f:([100,47]++name++[0,UInt8.ofNat n.toNat]).drop 2=name++[0,UInt8.ofNat n.toNat]:=U
   have v:(name++[0,UInt8.ofNat n.toNat]).length=name.length+2:=U
   unfold Ao;have t:(name++[0,UInt8.ofNat n.toNat]).take (name.length+2-2)=name:=U
   have m:(name++[0,UInt8.ofNat n.toNat]).getD (name.length+2-1) 0=UInt8.ofNat n.toNat:=by simp[Qz]
   have x:(name++[0,UInt8.ofNat n.toNat]).getD (name.length+2-2) 0=0:=by simp[Qz]
   have s:(((UInt8.ofNat n.toNat).toNat:Nat):Int)=n:=by
    rw[UInt8.toNat_ofNat'];omega
   rw[f,v,if_neg U,if_neg U,if_neg XB,if_neg XB,if_pos ⟨by rw[Q0];exact Rs _ _,O,x⟩,t,m,s]
  ·cases h
 rw[if_neg y]at h ⊢;by_cases i:k=3
 ·simp_all [Ao,A7,Rs]
 rw[if_neg i]at h ⊢;split at h
 ·rename_i w;split at h
  ·rename_i c;obtain⟨rfl,rfl⟩:=c;rcases w with rfl|rfl
   ·rfl
   ·rfl
  ·cases h
 ·cases h
def GP{k n:Int}{name:Bs}(h:Bl k name n=0):An k name n≠[]:=λe=>by
 have:=Bn h;rw[e]at this;have:k=0:=(congrArg (·.1) this).symm;subst this;cases h
theorem DH{a k n:Int}{name w:Bs}(s:a=1∨a=2∧w=[])(h:Bl k name n=0)(hl:name.length<=64)(m:w.length<=400):opK (a,An k name n,w):=by
 have u:=aHt k name n;have y:=GP h;refine⟨⟨by show(An k name n).length<=100;omega,m,?_⟩,λ_=>by show Bl (Ao (An k name n)).1 _ _=0;rw[Bn h];exact h⟩;rcases s with rfl|⟨rfl,rfl⟩
 ·exact .inl ⟨rfl,y⟩
 ·simp_all
def bT(a:UInt8){p:Bs}(hl:p.length<=64):opK (3,[a,47]++p++[47],[]):=
 ⟨⟨Xb,Qf _,.inr (.inr ⟨rfl,rfl⟩)⟩,λh=>absurd rfl h⟩
theorem IB{p:Bs}(h:Ay p=0):Bl 1 p 0=0:=by unfold Bl;rw[if_pos rfl,if_pos ⟨rfl,h⟩]
def LF{p:Bs}{n:Int}(h:Ay p=0)(g:1<=n∧n<=30):Bl 2 p n=0:=by unfold Bl;rw[if_neg V,if_pos rfl,if_pos ⟨g.1,g.2,h⟩]
def aGz{p:Bs}(h:BX p=true):Bl 3 p 0=0:=by unfold Bl;rw[if_neg V,if_neg V,if_pos rfl,if_pos ⟨rfl,h⟩]
structure H6 (l:List Op1):Prop where
 n:l.length<=40
 ok:∀x∈l,opK x
def aH9{l z:List Mt}{m:Mt}(e:(Fr l m).1=some z):Ay m.1=0∧l.length<4:=by
 grind [Fr,C7]
def S6{l:List Rl}:∀f j,D4 l f j=0->∀i,j<=i->i<j+f->i<l.length->Ib (CS l i) (l.take i)=0
 |0,j,_,i,h1,h2,_=>O
 |f+1,j,h,i,h1,h2,hi=>by
  unfold D4 at h;rw[if_pos O]at h;split at h
  ·omega
  ·rename_i z;rcases Nat.eq_or_lt_of_le h1 with rfl|h1
   ·exact Decidable.not_not.1 z
   ·exact S6 f (j+1) h i O O hi
def aAO{l:List Rl}(h:Cw l=0):∀r∈l,r.1.length<=64:=λr j=>by
 unfold Cw at h;split at h
 ·cases h
 ·obtain⟨i,hi,rfl⟩:=QI j;have y:=S6 l.length 0 h i (Qf _) O hi;have e:CS l i=l[i]:=by simp[CS,Qd hi]
  rw[e]at y;unfold Ib at y;split at y
  ·omega
  ·grind [Ay,Cu]
theorem tZ{l:List Rl}(h:Cw l=0):(CC (BV l)).length<=300:=by
 have p:=(NG h).1;have c:=aAO h;have g:CH (BV l)<=71*(BV l).length:=Mv λx q=>by
  obtain⟨r,j,rfl⟩:=Qp.1 q;have:=c r j;have:=FF r.2.toNat;simp only[WO,Qh,Qb,Qg];omega
 have:=Gp (BV l);rw[CJ]at *;omega
def jB(x y:Bs):(B9 [x,y]).length=4+x.length+y.length:=by
 grind [B9,aAy,beB_len]
def tK{l:List Mt}:Fl l↔l.Pairwise λa b=>Op.bytesLess a.1 b.1=true:=by
 rw[QD];constructor
 ·intro h i j hi q z;have:=h i j z q;simpa[Qz,hi,q]using this
 ·intro h i j z q;have:=h i j O q z;simpa[Qz,show i<l.length by omega,q]using this
def S3{l:List Tk}:GG l↔l.Pairwise λa b=>Op.bytesLess a.1 b.1=true:=by
 rw[QD];constructor
 ·intro h i j hi q z;have:=h i j z q;simpa[Bu,Qz,hi,q]using this
 ·intro h i j z q;have:=h i j O q z;simpa[Bu,Qz,show i<l.length by omega,q]using this
def aD0{l z:List Mt}{m:Mt}(h:Fl l)(e:(Fr l m).1=some z):Fl z:=by
 rw[N8 h]at e;have:=mK (s:=(false,l)) (m:=m) h;unfold aD2 at this;rw[e]at this;exact this
def aAH{l:List Mt}{p:Bs}(h:Fl l):Fl (EG l p):=by
 rw[tK]at h ⊢;refine List.Pairwise.sublist ?_ h;unfold EG;have e:l=l.take (BC l p).toNat++l.drop (BC l p).toNat:=(Q_ _ _).symm
 conv=>rhs;rw[e]
 refine List.Sublist.append (List.Sublist.refl _) ?_;rw[←List.drop_drop];exact List.drop_sublist _ _
def fK{l:List Tk}{r:Bs->Nat}(T:HV l r){s x:Bs}(h:H7 l s x):x=s∨∃c∈B6 l s,H7 l c x:=by
 induction h with
 |refl=>exact .inl rfl
 |step t p u ih=>
  right;rcases ih with e|⟨c,z,y⟩
  ·refine⟨t.1,?_,.refl⟩;have:=T.up t p;unfold B6;refine Qp.2 ⟨t,QQ.2 ⟨p,?_⟩,rfl⟩;simp only[QB,decide_eq_true_eq];exact⟨e,λm=>by rw[e,←m]at this;omega⟩
  ·exact⟨c,z,.step t p y⟩
def eJ{l:List Tk}{r:Bs->Nat}(T:HV l r):∀(f:Nat)(s x:Bs),H7 l s x->l.length<=r s+f->x∈D8 l f s
 |0,s,x,h,hf=>by
  rcases fK T h with rfl|⟨c,z,_⟩
  ·simp[D8]
  ·have:=IQ T z;omega
 |f+1,s,x,h,hf=>by
  rw[D8];rcases fK T h with rfl|⟨c,z,y⟩
  ·exact Qo
  ·have:=IQ T z;exact Qu _ (Zp.2 ⟨c,z,eJ T f c x y O⟩)
def aB9{l:List Tk}{r:Bs->Nat}(T:HV l r){s x:Bs}:x∈Cf l s↔H7 l s x:=by
 unfold Cf;constructor
 ·intro h;exact Ly _ _ _ (O3 h)
 ·intro h;exact(ZB _ _).mem_iff.2 (eJ T l.length s x h O)
def vD{l:List Bs}{s:Bs}:Gq l s=true↔s∈l:=by
 unfold Gq;rw[List.any_eq_true];constructor
 ·rintro⟨x,hx,e⟩;rw[of_decide_eq_true e];exact hx
 ·intro h;exact⟨s,h,decide_eq_true rfl⟩
def cU{l:List Tk}{g:List Bs}{t:Tk}:t∈CB l g↔t∈l∧t.1∉g:=by
 unfold CB;rw[QQ];have:=@vD g t.1;cases h:Gq g t.1<;>simp_all
def aBY{l:List Tk}(h:V2 l)(s:Bs):V2 (CB l (Cf l s)):=by
 obtain⟨r,T,v⟩:=h.tree;have b:(CB l (Cf l s)).Sublist l:=QX;refine⟨S3.2 ((S3.1 h.sort).sublist b),⟨λn=>((CB l (Cf l s)).filter λu=>decide (r u.1<=r n)).length,⟨λt p=>?_,λt p=>Zw _ _,T.one.sublist b⟩,?_⟩,λk y=>h.name k (b.subset y),λk y=>?_,λk y=>h.nop k (b.subset y),λk y=>h.rt k (b.subset y)⟩
 ·have hu:=T.up t (b.subset p);have z:∀L:List Tk,t∈L->(L.filter λu=>decide (r u.1<=r t.2.1)).length<(L.filter λu=>decide (r u.1<=r t.1)).length:=by
   intro L;induction L with
   |nil=>intro h;cases h
   |cons a L ih=>
    have d:(L.filter λu=>decide (r u.1<=r t.2.1)).length<=(L.filter λu=>decide (r u.1<=r t.1)).length:=by
     rw[←Zd,←Zd];exact List.countP_mono_left (λu _ c=>by
      have:=of_decide_eq_true c;exact decide_eq_true O)
    intro hm;rcases Qn.1 hm with rfl|hm
    ·rw[Qi,Qi,if_neg Xb,if_pos U];simp only[Qb];omega
    ·have:=ih hm;rw[Qi,Qi];by_cases c1:r a.1<=r t.2.1
     ·rw[if_pos (by simpa using c1),if_pos Xb];simp only[Qb];omega
     ·rw[if_neg (by simpa using c1)];split
      ·simp only[Qb];omega
      ·exact this
  exact z _ p
 ·rw[Zo,Zs];intro u hu;have:=T.up u (b.subset hu);simp only[decide_eq_true_eq];omega
 ·obtain⟨j,i⟩:=cU.1 y;rcases h.par k j with e|⟨u,hu,e⟩
  ·exact .inl e
  ·refine .inr ⟨u,cU.2 ⟨hu,λq=>i ?_⟩,e⟩;rw[aB9 T]at q ⊢;rw[e]at q;exact .step k j q
def L4(q g:Bs):∀l:List Bs,BT (l++[q]) g=if q=g then(l.length:Int)else BT l g
 |[]=>by simp[BT]
 |x::r=>by
  have ih:=L4 q g r;show BT (x::(r++[q])) g=_;unfold BT;rw[ih];by_cases h:q=g
  ·simp only[if_pos h];rw[if_pos O];simp
  ·simp only[if_neg h]
def eC(k:Kn)(q:Bs)(t:Bs)(b:Bool)(g:Bs):CN {k with es:=k.es++[(q,t,b)]} g=if q=g then(t,b,true)else CN k g:=by
 unfold CN FG;simp only[Zv,QV,Q6,L4,Qr];by_cases h:q=g
 ·simp only[if_pos h];rw[if_neg O];simp[Qz]
 ·simp only[if_neg h];by_cases y:BT (k.es.map (·.1)) g<0
  ·rw[if_pos y,if_pos y]
  ·rw[if_neg y,if_neg y];have:=(Fe (k.es.map (·.1)) g).2;rw[Qr]at this;have e:∀x,(k.es++[(q,t,b)]).getD (BT (k.es.map (·.1)) g).toNat x=k.es.getD (BT (k.es.map (·.1)) g).toNat x:=λx=>by
    simp only[Qz];rw[QP O]
   rw[e]
def aBi(k:Kn)(q:Bs)(nl:Bool)(l:List Bs)(g:Bs):Fp {k with ls:=k.ls++[(q,nl,l)]} g=if q=g then(nl,l,true)else Fp k g:=by
 unfold Fp;simp only[Zv,QV,Q6,L4,Qr];by_cases h:q=g
 ·simp only[if_pos h];rw[if_neg O];simp[Qz]
 ·simp only[if_neg h];by_cases y:BT (k.ls.map (·.1)) g<0
  ·rw[if_pos y,if_pos y]
  ·rw[if_neg y,if_neg y];have:=(Fe (k.ls.map (·.1)) g).2;rw[Qr]at this;have e:∀x,(k.ls++[(q,nl,l)]).getD (BT (k.ls.map (·.1)) g).toNat x=k.ls.getD (BT (k.ls.map (·.1)) g).toNat x:=λx=>by
    simp only[Qz];rw[QP O]
   rw[e]
def GO(k:Kn)(q:Bs)(d:Dk)(g:Bs):(q=g->(CN (A3 k q false d) g).2.2=true)∧(q≠g->CN (A3 k q false d) g=CN k g):=by
 have e:A3 k q false d={k with es:=k.es++[(q,((d.its.find? λx=>decide (x.1=q)).getD ([],[],false)).2)]}:=rfl;rw[e];have h:=eC k q ((d.its.find? λx=>decide (x.1=q)).getD ([],[],false)).2.1 ((d.its.find? λx=>decide (x.1=q)).getD ([],[],false)).2.2 g;refine⟨λu=>?_,λu=>?_⟩
 ·refine(congrArg (λx=>x.2.2) h).trans ?_;rw[if_pos u]
 ·refine h.trans ?_;rw[if_neg u]
def aHo(k:Kn)(q:Bs)(d:Dk):(Fp (A3 k q true d) q).2.2=true:=by
 have e:A3 k q true d={k with ls:=k.ls++[(q,((d.lss.find? λx=>decide (x.1=q)).getD ([],true,[])).2)]}:=rfl;rw[e];have h:=aBi k q ((d.lss.find? λx=>decide (x.1=q)).getD ([],true,[])).2.1 ((d.lss.find? λx=>decide (x.1=q)).getD ([],true,[])).2.2 q;refine(congrArg (λx=>x.2.2) h).trans ?_;rw[if_pos rfl]
def fP{l z:List Mt}{m:Mt}(h:Fl l)(e:(Fr l m).1=some z):∀x∈z,x∈l∨x=m:=by
 grind [N8,xR]
def aD3(l:List Mt)(m:Mt):(∃z,(Fr l m).1=some z∧(Fr l m).2=0∧z.length=l.length+1)∨((Fr l m).1=none∧1<=(Fr l m).2∧(Fr l m).2<=99):=by
 unfold Fr;have h:=Ln m.1;by_cases u:C7 m.1 m.2.1≠0
 ·grind [C7]
 rw[if_neg u];by_cases y:0<=BC l m.1
 ·simp_all
 rw[if_neg y];by_cases i:II m.1 (l.map (·.1))=true
 ·simp_all
 rw[if_neg i];by_cases p:4<=l.length
 ·simp_all
 rw[if_neg p];exact .inl ⟨_,rfl,rfl,by rw[isortR_len,Qh];rfl⟩
structure HD (v:Vw):Prop where
 ok:R3 v
 inv:V2 v.ks
 srt:Fl v.ms
 nlm:v.nlm=true->v.ms=[]
 te:1<=v.te∧v.te<=6
 kl:v.ks.length<=39
 ml:v.ms.length<=4
 mr:∀m∈v.ms,m.1.length<=64
def aFY{v:Vw}(m:HD v){n:Int}(g:1<=n∧n<=6):HD {v with te:=n}:=⟨⟨m.ok.ml,m.ok.mp,m.ok.kl,m.ok.kp⟩,m.inv,m.srt,m.nlm,g,m.kl,m.ml,m.mr⟩
def Ul{v:Vw}(r:HD v){nl:Bool}{l:List Mt}(n:Sj l)(i:Fl l)(g:nl=true->l=[])(hl:l.length<=4)(j:∀m∈l,m.1.length<=64):HD {v with nlm:=nl,ms:=l}:=⟨⟨n.1,n.2,r.ok.kl,r.ok.kp⟩,r.inv,i,g,r.te,r.kl,hl,j⟩
def nH{v:Vw}(m:HD v){nl:Bool}{l:List Tk}(h:V2 l∧l.length<=39∧∀k∈l,aAf k∧MC k.2.2.2):HD {v with nlt:=nl,ks:=l}:=⟨⟨m.ok.ml,m.ok.mp,QG h.2.1 V,h.2.2⟩,h.1,m.srt,m.nlm,m.te,h.2.1,m.ml,m.mr⟩
structure Le (a:Ak):Prop where
 ok:HJ a
 cap:GD a.rs
 nlr:a.nlr=true->a.rs=[]
structure Ir (k:Kn):Prop where
 es:k.es.length<=20
 ls:k.ls.length<=20
 et:∀x∈k.es,x.2.1.length<=400
 lt:∀x∈k.ls,x.2.2.length<=2000∧∀s∈x.2.2,s.length<=1000000
def FJ(v:Vw)(e:Int):Oc:=⟨[],false,Is (.fail e),true,[],v⟩
def Dq(v:Vw)(q:Bs)(li:Bool):Oc:=⟨q,li,[],true,[],v⟩
def Lb(v:Vw)(a:Ak)(o:Oc):Prop:=
 ∃y,Mo y=0∧ryN y∧o.rep=Is y∧(((∃e,y= .fail e)∧o.ops=[]∧o.vw=v)∨((∀e,y≠ .fail e)∧((Eb a.op=false∧o.ops=[]∧∃b,(a.op≠2->a.op≠3->b=v.se)∧o.vw={v with se:=b})∨(Eb a.op=true∧o.ops≠[]∧H6 o.ops∧HD o.vw∧o.vw.key=v.key))))
structure HN (v:Vw) (a:Ak) (dec:Kn->Oc):Prop where
 run:∀k,Ir k->R19 Sl SN [HZ v,HA a,.agg (HG k)]=some (.agg (LZ (dec k)))
 rep:∀k,Ir k->(dec k).need=[]->Lb v a (dec k)
 nd:∀k,Ir k->(dec k).need≠[]->∃q li,dec k=Dq v q li
 term:∃R:Kn->Nat,(∀k,R k<=3)∧∀k d,Ir k->(dec k).need≠[]->R (A3 k (dec k).need (dec k).li d)<R k
def BA{v:Vw}{a:Ak}(o:Oc)(run:∀k,Ir k->R19 Sl SN [HZ v,HA a,.agg (HG k)]=some (.agg (LZ o)))(g:o.need=[])(j:Lb v a o):HN v a (λ_=>o):=
 ⟨run,λ_ _ _=>j,λ_ _ h=>absurd g h,λ_=>0,λ_=>Qf _,λ_ _ _ h=>absurd g h⟩
def BY{v:Vw}{a:Ak}{e:Int}(z:1<=e∧e<=99):Lb v a (FJ v e):=⟨.fail e,if_pos z,trivial,rfl,.inl ⟨⟨e,rfl⟩,rfl,rfl⟩⟩
def Gu{v:Vw}{a:Ak}{o:Oc}(y:Ry)(h:Mo y=0)(g:ryN y)(j:o.rep=Is y)(r:∀e,y≠ .fail e)(t:Eb a.op=false)(i:o.ops=[])(b:Bool)(f:a.op≠2->a.op≠3->b=v.se)(m:o.vw={v with se:=b}):Lb v a o:=
 ⟨y,h,g,j,.inr ⟨r,.inl ⟨t,i,b,f,m⟩⟩⟩
def DL{v:Vw}{a:Ak}{o:Oc}(y:Ry)(h:Mo y=0)(g:ryN y)(j:o.rep=Is y)(r:∀e,y≠ .fail e)(f:Eb a.op=true)(i:o.ops≠[])(m:H6 o.ops)(hi:HD o.vw)(s:o.vw.key=v.key:=by rfl):Lb v a o:=
 ⟨y,h,g,j,.inr ⟨r,.inr ⟨f,i,m,hi,s⟩⟩⟩
def Oj{op:Int}(h:4<=op∧op<=18∧op≠9∧op≠14∧op≠17):Eb op=true:=decide_eq_true h
def PK{op:Int}(h:op=1∨op=2∨op=3∨op=9∨op=14∨op=17):Eb op=false:=decide_eq_false O
def O2:∀{l:List Mt},(∀m∈l,m.1.length<=64)->(Fo l).length<=68*l.length
 |[],_=>Qe _
 |m::l,h=>by
  have ih:=O2 (l:=l) λx q=>h x (Qu _ q)
  have j:=h m (Qo ..);have:=pD m;show(mtB m++Fo l).length<=_;rw[Qh,Qb];omega
def P2{s:Bs}(h:BX s=true):s.length<=8:=by
 grind [BX]
def Io(v:Vw):iD (He v):=⟨rfl,rfl⟩
def zS(v:Vw)(a:Ak)(k:Kn){e:Int}(z:1<=e∧e<=99):ON ⟨v,a,k⟩ (He v) [.int .i64 e]=some (.tup [],FJ v e,none):=mP ⟨v,a,k⟩ (He v) e (Io v) z
def aCF{v:Vw}{a:Ak}{e:Int}(p:zI [HZ v,HA a]=some (.int .i64 e))(z:1<=e∧e<=99):HN v a (λ_=>FJ v e):=
 BA _ (λk _=>aEt Sl SN v a k e O p _ _ (zS v a k z)) rfl (BY z)
inductive SH (v:Vw) (a:Ak):Oc->Prop
 |fail (e:Int):SH v a (FJ v e)
 |flag (o:Oc) (b:Bool) (h1:o.ops=[]) (h2:o.vw={v with se:=b}):SH v a o
 |rot (h:v.te<=5):SH v a (uE (He v) v.te)
 |mnt (l':List Mt) (e:(Fr v.ms (a.pa,a.n,a.fl)).1=some l'):SH v a (MM (He v) false l')
 |unm (hr:Ay a.pa=0) (hf:0<=BC v.ms a.pa):SH v a (zE (He v) (decide (EG v.ms a.pa=[])) (EG v.ms a.pa) a.pa)
 |mak (l':List Tk) (e:Ig v.ks (a.ot,a.tk,a.nlr,a.rs)=(some l',0)) (e1:l'=EX v.ks (a.ot,a.tk,a.nlr,a.rs)) (e2:LV a.ot a.tk a.rs=0) (h:v.ks.length<24):SH v a (mkO (He v) false l' a.ot (B9 [a.tk,if Cw a.rs=0 then CC (BV a.rs)else []]))
 |rev (nl:Bool) (hf:A4 v.ks a.ot=true):SH v a (WX (He v) nl (CB v.ks (Cf v.ks a.ot)) false (Cf v.ks a.ot))
def aHJ{v:Vw}{a:Ak}(hv:HD v)(ha:Le a)(ja:zI [HZ v,HA a]=some (.int .i64 0))(hc:Ca a=0)(h1:1<=a.op)(h8:a.op<=8):∃dec,HN v a dec∧∀k,SH v a (dec k):=by
 have na:∀o:Oc,(He v).nl=true->(He v).ops=[]:=λ_ _=>rfl
 rcases(by omega:a.op=1∨a.op=2∨a.op=3∨a.op=4∨a.op=5∨a.op=6∨a.op=7∨a.op=8)with h|h|h|h|h|h|h|h
 ·exact⟨_,BA _ (λk _=>BJ .o1 a k h ja _ _ (I8 ⟨v,a,k⟩ (He v) (.state v.se) (λ_=>rfl) trivial trivial)) rfl (Gu (.state v.se) rfl trivial rfl Xn (PK O) rfl v.se (λ_ _=>rfl) rfl),λ_=> .flag _ v.se rfl rfl⟩
 ·exact⟨_,BA _ (λk _=>BJ .o2 a k h ja _ _ (I7 ⟨v,a,k⟩ _ (λ_=>rfl))) rfl (Gu .done rfl trivial rfl Xn (PK O) rfl _ (λe _=>absurd h e) rfl),λ_=> .flag _ _ rfl rfl⟩
 ·exact⟨_,BA _ (λk _=>BJ .o3 a k h ja _ _ (I7 ⟨v,a,k⟩ _ (λ_=>rfl))) rfl (Gu .done rfl trivial rfl Xn (PK O) rfl _ (λ_ e=>absurd h e) rfl),λ_=> .flag _ _ rfl rfl⟩
 ·have ht:=hv.te;by_cases h6:6<=v.te
  ·exact⟨_,BA _ (λk _=>BJ .o4 a k h ja _ _ (aEf ⟨v,a,k⟩ (He v) _ _ (λ_=>rfl) h6 (zS v a k V))) rfl (BY V),λ_=> .fail _⟩
  ·exact⟨_,BA _ (λk _=>BJ .o4 a k h ja _ _ (aQg ⟨v,a,k⟩ (He v) v.te (Io v) h6 rfl O)) rfl (DL .done rfl trivial rfl Xn (Oj O) (by simp[uE,Oc.op,He]) ⟨by simp[uE,Oc.op,He],by
    simp only[uE,Oc.op,He,QC,QT];exact⟨DH (.inl rfl) rfl (Qf _) (by rw[Lib.repeatL_length];unfold Sw;simp only[List.length_singleton];split<;>omega),λ_ h=>nomatch h⟩⟩ (aFY hv O)),λ_=> .rot O⟩
 ·have hl:=hv.ml;have da:=aFo (nl:=v.nlm) (t:=[]) (l:=v.ms) (m:=(a.pa,a.n,a.fl)) O hv.nlm (by have:=ha.ok.pa;simp only;omega);rcases aD3 v.ms (a.pa,a.n,a.fl)with ⟨l',e1,e2,e3⟩|⟨e1,e2⟩
  ·rw[e1,e2]at da;have aa:Sj l':=⟨O,λm hm=>by
    rcases fP hv.srt e1 m hm with h|h
    ·exact hv.ok.mp m h
    ·rw[h];exact ha.ok.pa⟩
   obtain⟨i,h4⟩:=aH9 e1;have b:∀m∈l',m.1.length<=64:=λm hm=>by
    rcases fP hv.srt e1 m hm with h|h
    ·exact hv.mr m h
    ·rw[h];exact Cu i
   exact⟨_,BA _ (λk _=>BJ .o5 a k h ja _ _ (aEd ⟨v,a,k⟩ (He v) false l' da (Io v) aa)) rfl (DL .done rfl trivial rfl Xn (Oj O) Yg ⟨Yg,by
    simp only[MM,P4,Oc.op,He,QC,QT];have:=O2 b;exact⟨DH (.inl rfl) rfl (Qf _) O,λ_ h=>nomatch h⟩⟩ (Ul hv aa (aD0 hv.srt e1) (λe=>Xv) O b)),λ_=> .mnt l' e1⟩
  ·rw[e1]at da;exact⟨_,BA _ (λk _=>BJ .o5 a k h ja _ _ (aEe ⟨v,a,k⟩ (He v) _ _ (λ_=>rfl) v.nlm v.ms _ da O (zS v a k e2))) rfl (BY e2),λ_=> .fail _⟩
 ·have hl:=hv.ml;by_cases hf:BC v.ms a.pa<0
  ·have c:=aJc v.nlm v.ms a.pa O hf;exact⟨_,BA _ (λk _=>BJ .o6 a k h ja _ _ (aEc ⟨v,a,k⟩ (He v) _ _ (λ_=>rfl) v.nlm v.ms 14 c V (zS v a k V))) rfl (BY V),λ_=> .fail _⟩
  ·have hi:(BC v.ms a.pa).toNat<v.ms.length:=by
    have:=RE v.ms a.pa;omega
   have c:=aEv v.nlm v.ms a.pa O hv.nlm hf hi;have aa:Sj (EG v.ms a.pa):=⟨Yz,λm hm=>by
    rcases QH.1 hm with h|h
    ·exact hv.ok.mp m (Q3 h)
    ·exact hv.ok.mp m (Zz h)⟩
   have y:=Cu (Mj hc (by rw[h];decide+kernel));have b:∀m∈EG v.ms a.pa,m.1.length<=64:=λm hm=>by
    rcases QH.1 hm with h|h
    ·exact hv.mr m (Q3 h)
    ·exact hv.mr m (Zz h)
   have za:=aa.1;have ia:(EG v.ms a.pa).length<=4:=Yz
   exact⟨_,BA (zE (He v) (decide (EG v.ms a.pa=[])) (EG v.ms a.pa) a.pa) (λk _=>BJ .o6 a k h ja _ _ (aQf ⟨v,a,k⟩ (He v) _ _ c (Io v) aa (by have:=ha.ok.pa;simp only;omega))) rfl (DL .done rfl trivial rfl Xn (Oj O) Yc ⟨Yc,by
    simp only[zE,P4,Oc.op,He,QC,ZI,QT];have:=O2 b;exact⟨DH (.inl rfl) rfl (Qf _) O,bT 109 y,bT 100 y,λ_ h=>nomatch h⟩⟩ (Ul hv aa (aAH hv.srt) (λe=>of_decide_eq_true e) ia b)),λ_=> .unm (Mj hc (by rw[h];decide+kernel)) O⟩
 ·have ma:=hv.kl;have hr:MC a.rs:=⟨Yu,λr hr=>QG (ha.ok.rs r hr).1 V,ha.cap⟩;have ga:=aQ6 (nl0:=v.nlt) (nl:=a.nlr) (l:=v.ks) (n:=a.ot) (p:=a.tk) (rs:=a.rs) O (λk hk=>(hv.ok.kp k hk).2) ha.nlr hr (by have:=ha.ok.ot;omega) Yt;have f:=sN (nl:=v.nlt) (l:=v.ks) O;rcases aBf v.ks (a.ot,a.tk,a.nlr,a.rs)with ⟨⟨l',e1⟩,e2,e3,e4,e5,e6⟩|⟨e1,e2⟩
  ·rw[e1]at ga;by_cases hm:(24:Int)<=((v.ks.map λk=>D.str k.1).length:Int)
   ·exact⟨_,BA _ (λk _=>BJ .o7 a k h ja _ _ (aEa ⟨v,a,k⟩ (He v) _ _ (λ_=>rfl) false l' ga _ _ f hm (zS v a k V))) rfl (BY V),λ_=> .fail _⟩
   ·have ba:=We (n:=a.ot) (p:=a.tk) (nl:=a.nlr) (t:=[]) (l:=a.rs) Yu hr.2.1 (by have:=ha.ok.ot;omega) Yt;simp only at e2;rw[e2]at ba;have j:=Wc (nl:=a.nlr) (l:=a.rs) Yu ha.ok.rs;have ca:(if Cw a.rs=0 then CC (BV a.rs)else []).length<=300:=by
     grind [tZ]
    have fa:=QG ca (by decide:300<=60000);have z:BX a.ot=true:=Nx e2;obtain⟨tp,ka,ea⟩:=Lx e5;have w:a.tk.length<=8:=by
     have:=P2 (hv.inv.name tp ka);rw[ea]at this;exact this
    have la:(B9 [a.tk,if Cw a.rs=0 then CC (BV a.rs)else []]).length<=400:=by rw[jB];omega
    have g:=rT a.ot a.tk a.nlr a.rs _ _ ba j Yt fa;exact⟨_,BA (mkO (He v) false l' a.ot (B9 [a.tk,if Cw a.rs=0 then CC (BV a.rs)else []])) (λk _=>BJ .o7 a k h ja _ _ (aQe ⟨v,a,k⟩ (He v) false l' ga _ _ f (Io v) hm _ _ g (by have:=ha.ok.ot;simp only;omega))) rfl (DL .done rfl trivial rfl Xn (Oj O) (by simp[mkO,Sp,Oc.op,He]) ⟨by simp[mkO,Sp,Oc.op,He],by
     simp only[mkO,Sp,Oc.op,He,QC,QT];exact⟨DH (.inl rfl) (aGz z) (QG (P2 z) V) la,λ_ h=>nomatch h⟩⟩ (nH hv (nl:=false) (l:=l') (by
      have e7:l'=EX v.ks (a.ot,a.tk,a.nlr,a.rs):=ZM ((congrArg ZV e1).symm.trans e6);rw[e7];exact⟨aBX hv.inv e2 e4 e5,by rw[PL];rw[Qr]at hm;omega,λk hk=>by
       rcases Dy.1 hk with hk|rfl
       ·exact hv.ok.kp k hk
       ·exact⟨⟨hr.1,ha.nlr⟩,hr⟩⟩))),λ_=> .mak l' e1 (ZM ((congrArg ZV e1).symm.trans e6)) e2 (by rw[Qr]at hm;omega)⟩
  ·rw[e1]at ga;exact⟨_,BA _ (λk _=>BJ .o7 a k h ja _ _ (aEb ⟨v,a,k⟩ (He v) _ _ (λ_=>rfl) v.nlt v.ks _ ga O (zS v a k e2))) rfl (BY e2),λ_=> .fail _⟩
 ·obtain⟨r,hr,_⟩:=hv.inv.tree;have ma:=hv.kl;cases hf:A4 v.ks a.ot with
  |false=>
   have d:=aJk (nl:=v.nlt) O hr hf;exact⟨_,BA _ (λk _=>BJ .o8 a k h ja _ _ (aD9 Sl ⟨v,a,k⟩ (He v) _ _ (λ_=>rfl) v.nlt v.ks true [] 6 d V (zS v a k V))) rfl (BY V),λ_=> .fail _⟩
  |true=>
   have d:=aFk (nl:=v.nlt) O hr hf;have qa:(Cf v.ks a.ot).length<=v.ks.length+1:=by
    unfold Cf iR;rw[Qs];exact qE hr _ _
   have q:∀s∈Cf v.ks a.ot,BX s=true:=λs hs=>by
    have:=Vl (O3 hs);obtain⟨u,hu,e⟩:=Lx hf;rcases Qn.1 this with rfl|h
    ·rw[←e];exact hv.inv.name u hu
    ·obtain⟨t,ht,rfl⟩:=Qp.1 h;exact hv.inv.name t ht
   have va:Cf v.ks a.ot≠[]:=λe=>by
    have h1:(Cf v.ks a.ot).length=(D8 v.ks v.ks.length a.ot).length:=Qs _;rw[e]at h1;cases hk:v.ks.length<;>rw[hk]at h1<;>simp[D8]at h1
   have oa:∀s∈Cf v.ks a.ot,s.length<=1000000:=λs hs=>by
    have:=q s hs;unfold BX at this;simp only[QB,decide_eq_true_eq]at this;omega
   have hy:Mo (.names false (Cf v.ks a.ot))=0:=if_pos ⟨O,by
    rw[Zj];intro x hx;rw[aG2 (q x hx)];decide⟩
   exact⟨_,BA (WX (He v) (decide (CB v.ks (Cf v.ks a.ot)=[])) (CB v.ks (Cf v.ks a.ot)) false (Cf v.ks a.ot)) (λk _=>BJ .o8 a k h ja _ _ (aQd Sl ⟨v,a,k⟩ (He v) _ _ false (Cf v.ks a.ot) d (Io v) va O oa (λe=>Xv))) rfl (DL (.names false (Cf v.ks a.ot)) hy (λe=>Xv) rfl Xn (Oj O) (by simp[WX,Dr,Sp,He,va]) ⟨by simp[WX,Dr,Sp,He];omega,λx hx=>by
    simp only[WX,Dr,Sp,He,QC]at hx;obtain⟨n,hn,rfl⟩:=Qp.1 hx;exact DH (.inr ⟨rfl,rfl⟩) (aGz (q n hn)) (QG (P2 (q n hn)) V) (Qf _)⟩ (nH hv ⟨aBY hv.inv a.ot,QG (Zw _ _) ma,λk hk=>hv.ok.kp k (QQ.1 hk).1⟩)),λ_=> .rev _ hf⟩
theorem qB{k:Kn}(h:Ir k)(q:Bs):(CN k q).1.length<=400:=by
 unfold CN;split
 ·decide
 ·rename_i y;have:=(Fe (FG k) q).2;unfold FG at this y;rw[Qr]at this;simp only[Qz,FG];rw[Qd O];exact h.et _ (QL O)
def aOK{k:Kn}(h:Ir k)(q:Bs):(Fp k q).2.1.length<=2000∧∀s∈(Fp k q).2.1,s.length<=1000000:=by
 unfold Fp;split
 ·simp_all
 ·rename_i y;have:=(Fe (k.ls.map (·.1)) q).2;rw[Qr]at this;simp only[Qz];rw[Qd O];exact h.lt _ (QL O)
structure SI (s:Sc):Prop where
 bad:BU s 6=false
 nl:s.nl=true->s.rs=[]
theorem GZ{s:Sc}{q:Int}(h:BU s q=false):(1<=q∧q<=6)∧(0<=s.mx∧s.mx<=6)∧(0<=s.la∧s.la<=30)∧(s.rs.length:Int)<=6∧Cn s.rs 0=true∧Gl s.rs=s.la:=by
 grind [BU,AR]
def SI.len{s:Sc}(h:SI s):s.rs.length<=6:=by have:=(GZ h.bad).2.2.2.1;omega
def aOi:SI sc0:=⟨V,λ_=>rfl⟩
theorem Dm{t:Bs}(h:(A_ t).2=0):SI (A_ t).1:=by
 unfold A_ at h ⊢;split at h
 ·cases h
 ·rename_i u;rw[if_neg u];split at h
  ·cases h
  ·rename_i y;rw[if_neg y];refine⟨by
    cases hb:BU (Um t) 6 with
    |false=>rfl
    |true=>exact absurd (.inr (.inr hb)) y,λg=>?_⟩
   simp only[Um,decide_eq_true_eq]at g;show(Fm t).1=[];unfold Fm;rw[g];rfl
def B1(a:Bs×Bool×Bool):Option Sc:=if a.2.1=false∨(A_ a.1).2≠0 then none else some (A_ a.1).1
def Ei(o:Option Sc):Sc:=o.getD sc0
def Lk{a:Bs×Bool×Bool}{s:Sc}(h:B1 a=some s):SI s:=by
 grind [B1,Dm]
def Ec(a:Bs×Bool×Bool):SI (Ei (B1 a)):=by
 cases h:B1 a with
 |none=>exact aOi
 |some s=>exact Lk h
def AK(k:Kn)(p:Bs):Bs×Bool×Bool:=CN k (An 1 p 0)
section
variable{v:Vw}{a:Ak}{k:Kn}
def Nv(s:Ir k){p:Bs}(c:p.length<=1000000)(h:(AK k p).2.2=false):C9 ⟨v,a,k⟩ (He v) [.str p]=some (.tup [.agg (Hg sc0),.bool false,.bool false],Dq v (An 1 p 0) false,none):=
 yB ⟨v,a,k⟩ (He v) p (Io v) c (by have:=s.es;simp only;omega) (AK k p) rfl h
def LU(s:Ir k){p:Bs}(c:p.length<=1000000)(h:(AK k p).2.2=true):C9 ⟨v,a,k⟩ (He v) [.str p]=some (.tup [.agg (Hg (Ei (B1 (AK k p)))),.bool (B1 (AK k p)).isSome,.bool true],He v,none):=by
 have hl:(AK k p).1.length<=1000000:=by have:=qB s (An 1 p 0);unfold AK;omega
 have j:(Wb.mk v a k).k.es.length<=1000:=by have:=s.es;simp only;omega
 by_cases z:(AK k p).2.1=false∨(A_ (AK k p).1).2≠0
 ·have e:B1 (AK k p)=none:=if_pos z;rw[e];exact aIf ⟨v,a,k⟩ (He v) p (Io v) c j (AK k p) rfl h hl z
 ·have e:B1 (AK k p)=some (A_ (AK k p).1).1:=if_neg z;rw[e];rw[not_or]at z;exact aEg ⟨v,a,k⟩ (He v) p (Io v) c j (AK k p) rfl h hl (by simpa using z.1) (Decidable.not_not.1 z.2)
def DX(v:Vw)(p:Bs)(s:Sc)(cas:Int)(data:Bs):Oc:=
 if(B2 s (AL v p).1 (AL v p).2 cas data.length).2.2.2≠0 then FJ v (B2 s (AL v p).1 (AL v p).2 cas data.length).2.2.2 else Sq (He v) p (B2 s (AL v p).1 (AL v p).2 cas data.length) data
theorem aGF(s:Sc)(q:Int)(b:Bool)(cas j:Int):0<=Il s q b cas j∧Il s q b cas j<=99:=by
 grind [Il]
def nF{s:Sc}(g:s.rs.length<=6)(q:Int)(b:Bool)(cas j:Int):(0<=(B2 s q b cas j).2.2.2∧(B2 s q b cas j).2.2.2<=99)∧(B2 s q b cas j).1.rs.length<=7∧(B2 s q b cas j).2.2.1.length<=7∧((B2 s q b cas j).2.2.2=0->0<=(B2 s q b cas j).2.1∧(B2 s q b cas j).2.1<=31):=by
 grind [aGF,B2,Il,B_,AZ,Fq,BU,GZ]
def aNY(m:HD v){p:Bs}(c:p.length<=1000000){s:Sc}(g:SI s){cas:Int}{data:Bs}(t:data.length<=1000000):∃ol,VV ⟨v,a,k⟩ (He v) [.str p,.agg (Hg s),.int .i64 cas,.str data]=some (.tup [],DX v p s cas data,ol):=by
 have hl:=g.len;obtain⟨u,y,i,e⟩:=nF hl (AL v p).1 (AL v p).2 cas data.length;have j:(Wb.mk v a k).v.ms.length<=1000:=by have:=m.ml;simp only;omega
 unfold DX;by_cases h:(B2 s (AL v p).1 (AL v p).2 cas data.length).2.2.2≠0
 ·rw[if_pos h];exact⟨_,yA ⟨v,a,k⟩ (He v) p s cas data (Io v) O g.nl c t j _ rfl O⟩
 ·rw[if_neg h];exact⟨_,aIe ⟨v,a,k⟩ (He v) p s cas data (Io v) O g.nl c t j _ rfl (Decidable.not_not.1 h) O O⟩
def Cc{s:Sc}(g:SI s):∀x∈s.rs,1<=x.1∧x.1<=30:=(T7 g.bad V).2
def bR(s:Sc):(BS s).length<=4+2*s.rs.length:=by
 grind [BS,rowsI_len,N5]
def qA{s:Sc}{q n:Int}(h:n∈Fq s q):∃x∈s.rs,x.1=n:=by
 obtain⟨x,w,e⟩:=Qp.1 h;exact⟨x,Q3 w,e⟩
theorem Vk{p:Bs}(c:Ay p=0){ns:List Int}(h:∀n∈ns,1<=n∧n<=30):∀x∈ns.map (λn=>((2:Int),An 2 p n,([]:Bs))),opK x:=λx q=>by
 obtain⟨n,g,rfl⟩:=Qp.1 q;exact DH (.inr ⟨rfl,rfl⟩) (LF c (h n g)) (Cu c) (Qf _)
theorem SQ(m:HD v){p:Bs}{s:Sc}(z:SI s){cas:Int}{data:Bs}(k:Ay p=0)(t:Eb a.op=true):(DX v p s cas data).need=[]∧Lb v a (DX v p s cas data):=by
 have hl:=z.len;obtain⟨u,y,i,q⟩:=nF hl (AL v p).1 (AL v p).2 cas data.length;unfold DX;by_cases h:(B2 s (AL v p).1 (AL v p).2 cas data.length).2.2.2≠0
 ·rw[if_pos h];exact⟨rfl,BY O⟩
 ·rw[if_neg h];have j:Il s (AL v p).1 (AL v p).2 cas data.length=0:=by
   grind [Il,AL,B2]
  have o:s.la+1<=30∧1<=s.la+1∧data.length<=96:=by
   have hq:=(GZ z.bad).2.2.1;unfold Il at j
   repeat' split at j
   all_goals first|omega|cases j
  have f:=y;have e:B2 s (AL v p).1 (AL v p).2 cas data.length=(B_ (AZ s) (AL v p).1,s.la+1,Fq (AZ s) (AL v p).1,0):=by unfold B2;rw[if_neg (λc=>c j)]
  rw[e]at i f ⊢;simp only at i f;have w:=bR (B_ (AZ s) (AL v p).1);have d:∀n∈Fq (AZ s) (AL v p).1,1<=n∧n<=30:=λn g=>by
   obtain⟨x,hx,rfl⟩:=qA g;rcases QH.1 hx with hx|hx
   ·exact Cc z x hx
   ·simp_all
  refine⟨rfl,DL (.number (s.la+1)) (if_pos ⟨O,O⟩) trivial rfl Xn t (by simp[Sq,Bk,Oc.op,He]) ⟨?_,?_⟩ ?_⟩
  ·simp only[Sq,Bk,Oc.op,He,Qh,Qb,Qg,Qr];omega
  ·simp only[Sq,Bk,Oc.op,He,QC,ZI,QT];exact⟨DH (.inl rfl) (IB k) (Cu k) O,DH (.inl rfl) (LF k ⟨o.2.1,o.1⟩) (Cu k) O,Vk k d⟩
  ·exact m
def Dz(v:Vw)(p:Bs)(s:Sc)(gone:List Int)(e:Int):Oc:=if e≠0 then FJ v e else Ix (He v) p s gone
def aFX{s:Sc}(g:s.rs.length<=1000){gnl:Bool}{gone:List Int}(q:gone.length<=900){e:Int}(z:0<=e∧e<=99)(c:a.pa.length<=1000000):∃ol,VT ⟨v,a,k⟩ (He v) [.agg (Hg s),.slice gnl [] (AI gone),.int .i64 e]=some (.tup [],Dz v a.pa s gone e,ol):=by
 unfold Dz;by_cases h:e≠0
 ·rw[if_pos h];exact⟨_,xY ⟨v,a,k⟩ (He v) s gnl gone e (Io v) O⟩
 ·rw[if_neg h];obtain rfl:=Decidable.not_not.1 h;exact⟨_,aId ⟨v,a,k⟩ (He v) s gnl gone (Io v) q g c⟩
def Mu(m:HD v){p:Bs}{s:Sc}{gone:List Int}(q:gone.length<=30){e:Int}(z:0<=e∧e<=99)(c:Ay p=0)(f:Eb a.op=true)(i:s.rs.length<=6)(g:∀n∈gone,1<=n∧n<=30):(Dz v p s gone e).need=[]∧Lb v a (Dz v p s gone e):=by
 unfold Dz;by_cases h:e≠0
 ·rw[if_pos h];exact⟨rfl,BY O⟩
 ·rw[if_neg h];have y:=bR s;refine⟨rfl,DL .done rfl trivial rfl Xn f (by simp[Ix,Bk,Oc.op,He]) ⟨?_,?_⟩ m⟩
  ·grind [Ix,Bk,Oc.op,He]
  ·grind [Ix,Bk,Oc.op,He,DH,IB,Cu,Vk]
def Lg(ns:List Int)(n:Nat):∀(l:List Rw)(j:Nat),∀q∈CG ns n j l,∃x∈l,x.1=q
 |[],j,q,h=>Xc
 |x::r,j,q,h=>by
  unfold CG at h;split at h
  ·rcases Qn.1 h with rfl|h
   ·simp_all
   ·obtain⟨y,o,e⟩:=Lg ns n r (j+1) q h;exact⟨y,Qu _ o,e⟩
  ·obtain⟨y,o,e⟩:=Lg ns n r (j+1) q h;exact⟨y,Qu _ o,e⟩
def sT{s:Sc}(g:SI s)(ns:List Int)(c:Nat):∀q∈(Bf s ns c).2.1,1<=q∧q<=30:=λq v=>by
 unfold Bf at v
 repeat' split at v
 ·cases v
 ·cases v
 ·obtain⟨x,w,rfl⟩:=Lg _ _ _ _ q v;exact Cc g x w
def wT{s:Sc}(i:SI s)(q j:Int)(b:Bool):∀n∈(Cm s q j b).2.1,1<=n∧n<=30:=λn g=>by
 unfold Cm at g;split at g
 ·cases g
 ·obtain⟨x,w,rfl⟩:=qA g;exact Cc i x w
theorem SX(ns:List Int)(n:Nat):∀(l:List Rw)(j:Nat),(CG ns n j l).length<=l.length
 |[],j=>Qe _
 |x::r,j=>by
  unfold CG;have:=SX ns n r (j+1);split<;>simp only[Qb]<;>omega
def Ms{s:Sc}(g:s.rs.length<=6)(ns:List Int)(c:Nat):(0<=(Bf s ns c).2.2∧(Bf s ns c).2.2<=99)∧(Bf s ns c).1.rs.length<=6∧(Bf s ns c).2.1.length<=6:=by
 grind [Bf,Nw,SX]
def eQ{s:Sc}(g:s.rs.length<=6)(q j:Int)(b:Bool):(0<=(Cm s q j b).2.2∧(Cm s q j b).2.2<=99)∧(Cm s q j b).1.rs.length<=6∧(Cm s q j b).2.1.length<=6:=by
 grind [Cm,B_,Fq]
end
end Go.Vd
end
