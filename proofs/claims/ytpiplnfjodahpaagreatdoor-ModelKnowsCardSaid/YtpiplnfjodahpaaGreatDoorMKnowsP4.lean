/- A part of the proof; nothing in it is assumed. -/
import Derived.Test.YtpiplnfjodahpaaGreatDoorMKnowsP3
import Derived.Shelf.Strings.Repeat
import Derived.Laws.CopyOwn
import Derived.Shelf.Sort.Plain
import Derived.Shelf.Slices.CompactS
import Derived.Sort.OwnSorted
import Derived.Lib.OwnBridge
import Derived.Shelf.Slices.In.SortNone
import Derived.Laws.EntriesVeiled

set_option linter.unusedSimpArgs false
set_option linter.unusedVariables false
set_option linter.defProp false
set_option maxHeartbeats 4000000
set_option maxRecDepth 100000
open Nat renaming le_of_ble_eq_true→Qa,le_refl→Qe,zero_le→Qf,zero_add→Qj,succ_ne_zero→Ql,reduceEqDiff→Qw,zero_ne_one→QA,reduceAdd→QF,le_trans→QG,sub_zero→QK,lt_trichotomy→ZE,not_lt_zero→ZJ,lt_or_ge→ZR
open List renaming length_cons→Qb,getElem?_eq_getElem→Qd,length_nil→Qg,length_append→Qh,filter_cons→Qi,mem_cons→Qn,mem_cons_self→Qo,mem_map→Qp,length_map→Qr,length_mergeSort→Qs,mem_cons_of_mem→Qu,getElem?_eq_some_iff→Qy,getD→Qz,nil_append→QC,pairwise_iff_getElem→QD,mem_append→QH,getElem_of_mem→QI,take_of_length_le→QJ,getElem_mem→QL,pairwise_cons→QM,nodup_iff_pairwise_ne→QN,getD_eq_getElem?_getD→QO,getElem?_append_left→QP,mem_filter→QQ,take_succ_eq_append_getElem→QR,mem_of_getElem?→QS,forall_mem_cons→QT,map_cons→QV,filter_sublist→QX,filter_append→QY,take_append_drop→Q_,append_assoc→Q0,drop_zero→Q2,mem_of_mem_take→Q3,length_filterMap_le→Q5,map_nil→Q6,getElem?_map→Q7,drop_eq_nil_of_le→Q8,all_eq_true→Q9,length_take→Za,eq_nil_of_length_eq_zero→Zc,countP_eq_length_filter→Zd,take_succ_cons→Ze,take_zero→Zf,mem_singleton→Zg,getElem?_append_right→Zh,find?_eq_none→Zi,any_eq_false→Zj,find?_append→Zk,not_mem_nil→Zl,take_length→Zn,length_eq_zero_iff→Zo,mem_flatMap→Zp,filter_eq_nil_iff→Zs,append_nil→Zu,map_append→Zv,length_filter_le→Zw,replicate→Zy,mem_of_mem_drop→Zz,take→ZA,mergeSort_perm→ZB,flatMap_cons→ZF,suffix_cons→ZG,isEmpty_iff→ZH,cons_append→ZI,nodup_cons→ZK,find?_cons→ZL,map_take→ZO,getLast?→ZP,sum_cons→ZQ,length→ZT
open Go.Proofs.Tryz renaming prog→Qc
open List.cons renaming injEq→Qk,inj→ZW
open Int renaming toNat_natCast→Qm,toNat_of_nonneg→QW,toNat_zero→Q1,lt_irrefl→Zb,toNat_one→ZC,le_refl→ZS
open And renaming intro→Qq
open Option.some renaming injEq→Qt,inj→ZM
open Array renaming getElem?_eq_some_iff→Qv,size_push→QZ
open Option renaming map_eq_some_iff→Qx,isSome_some→QE,getD_some→Q4,bind_some→Zm
open Bool renaming and_eq_true→QB,true_or→Zq,or_true→Zr,or_eq_true→Zt,false_and→Zx,false_or→ZD,and_false→ZN
open Prod.mk renaming injEq→QU
open Iff renaming intro→ZU
open Prod renaming fst→ZV
open Go.Proofs.Tryz
noncomputable section
namespace Go.Vd
open Go.Proofs Go.RowKit
def SV:=Aq [(218,wQ De),(221,wQ WT),(223,rdQ aAP),(222,Ac aLk),(224,wQ WR),(144,wQ Pz),(145,wQ iY),(225,wQ aKm),(226,Ac aLi),(227,Ac aLg),(228,Ac aLe)]
def U_:Wb->Oc->List D->Option WY:=RW SV Ts [] 172
def aYV:(wQ U_).ok Qc 154:=Dw (Aj func154) (Aa aMO (Aa aMM (Aa aUd (Aa aWz (Aa aWx (Aa Tm (Aa mZ (Aa aWw (Aa aWv (Aa aWu (Aa aWt Ad)))))))))))
def aFV(w:Wb)(o:Oc)(s:Sc)(e:Bool)(b:Oc)(v:o.nl=true->o.ops=[])(z:De w o [.str w.a.pa]=some (.tup [.agg (HO s),.bool e,.bool false],b,none)):U_ w o []=some (.tup [],b,none):=by
 refine Bb v ⟨Qa rfl,λh=>((Fl z).2.1 rfl),λl h=>Xc,λi m fr t x j f n0=>?_⟩;have d:=Wt.start x j;unfold Ts;have y:=AM x.1;unfold HO at *;simp only[↓C2,HH,HZ,HB,simprocAttr,y,AE SV 218];refine Au d z (λM c1 c2=>?_);simp only[HG,↓C2,HB,simprocAttr];exact c1.put.put.end0 x.2.2
def aAI(w:Wb)(o:Oc)(s:Sc)(c:Bool)(b:Oc)(ol:Option (List Nat))(v:o.nl=true->o.ops=[])(z:De w o [.str w.a.pa]=some (.tup [.agg (HO s),.bool c,.bool true],o,none))(q:w.a.op=10)(e:WT w o [.str w.a.pa,.agg (HO s),.int .i64 w.a.cas,.str w.a.da]=some (.tup [],b,ol)):U_ w o []=some (.tup [],b,ol.map (·++[41])):=by
 refine Bb v ⟨Qa rfl,λh=>CI e h,λl h=>CH e h,λi m fr t x j f n0=>?_⟩;have k:=Wt.start x j;unfold Ts;have y:=AM x.1;unfold HO at *;simp only[↓C2,HH,HZ,HB,simprocAttr,y,AE SV 218];refine Au k z (λM c1 c2=>?_);have y:=AM c1.at_.1;simp only[HG,↓C2,HB,simprocAttr,y,n0,AE SV 221,q];refine CF c1.put.put e (λn u d r d2=>?_);simp only[↓C2,Iz,simprocAttr];refine aB (λp g=>Xm) ?_;simp only[↓C2,HH,simprocAttr];exact r.endc x.2.2
def aFU(w:Wb)(o:Oc)(s:Sc)(b:Oc)(ol:Option (List Nat))(v:o.nl=true->o.ops=[])(z:De w o [.str w.a.pa]=some (.tup [.agg (HO s),.bool false,.bool true],o,none))(n:w.a.op≠10)(p:w.a.op≠15)(r:Pz w o [.int .i64 6]=some (.tup [],b,ol)):U_ w o []=some (.tup [],b,ol.map (·++[35])):=by
 refine Bb v ⟨Qa rfl,λh=>CI r h,λl h=>CH r h,λi m fr t x j f n0=>?_⟩;have d:=Wt.start x j;unfold Ts;have y:=AM x.1;unfold HO at *;simp only[↓C2,HH,HZ,HB,simprocAttr,y,AE SV 218];refine Au d z (λM c1 c2=>?_);have y:=AM c1.at_.1;simp only[HG,↓C2,HB,simprocAttr,y,n0,eq_false n,eq_false p,AE SV 144];refine Au c1.put.put r (λe u d2=>?_);simp only[↓C2,HH,simprocAttr];exact u.endc x.2.2
def aAK(w:Wb)(o:Oc)(s:Sc)(b:Oc)(ol:Option (List Nat))(v:o.nl=true->o.ops=[])(z:De w o [.str w.a.pa]=some (.tup [.agg (HO s),.bool true,.bool true],o,none))(q:w.a.op=14)(ta:iY w o [.agg (Iv (.about s))]=some (.tup [],b,ol)):U_ w o []=some (.tup [],b,ol.map (·++[44])):=by
 refine Bb v ⟨Qa rfl,λh=>CI ta h,λl h=>CH ta h,λi m fr t x j f n0=>?_⟩;have d:=Wt.start x j;unfold Ts;have y:=AM x.1;unfold HO at *;simp only[↓C2,HH,HZ,HB,simprocAttr,y,AE SV 218];refine Au d z (λM c1 c2=>?_);have y:=AM c1.at_.1;simp only[HG,↓C2,HB,simprocAttr,y,n0,AE SV 145,q];refine Au c1.put.put ta (λn u p=>?_);simp only[↓C2,HH,simprocAttr];exact u.endc x.2.2
def aAJ(w:Wb)(o:Oc)(s:Sc)(p:Oc)(ol:Option (List Nat))(v:o.nl=true->o.ops=[])(z:De w o [.str w.a.pa]=some (.tup [.agg (HO s),.bool true,.bool true],o,none))(q:w.a.op=16)(b:aKm w o [.agg (HO s)]=some (.tup [],p,ol)):U_ w o []=some (.tup [],p,ol.map (·++[50])):=by
 refine Bb v ⟨Qa rfl,λh=>CI b h,λl h=>CH b h,λi m fr t x j f n0=>?_⟩;have d:=Wt.start x j;unfold Ts;have y:=AM x.1;unfold HO at *;simp only[↓C2,HH,HZ,HB,simprocAttr,y,AE SV 218];refine Au d z (λM c1 c2=>?_);have y:=AM c1.at_.1;simp only[HG,↓C2,HB,simprocAttr,y,n0,AE SV 225,q];refine Au c1.put.put b (λn u d2=>?_);simp only[↓C2,HH,simprocAttr];exact u.endc x.2.2
def pT(w:Wb)(o:Oc)(s:Sc)(is:Bool)(k:Oc)(ol:Option (List Nat))(v:o.nl=true->o.ops=[])(z:De w o [.str w.a.pa]=some (.tup [.agg (HO s),.bool is,.bool true],o,none))(g:w.a.op=15)(q:Int)(b:Bool)(s2:Sc)(gnl:Bool)(gone:List Int)(e:Int)(r:WR w o [.agg (HO s2),.slice gnl [] (AI gone),.int .i64 e]=some (.tup [],k,ol))(c:aAP w o [.str w.a.pa]=some (.agg [.int .i64 q,.bool b],o,none))(d:aLk [.agg (HO s),.agg [.int .i64 q,.bool b],.int .i64 w.a.n,.bool w.a.fl]=some (.tup [.agg (HO s2),.slice gnl [] (AI gone),.int .i64 e])):U_ w o []=some (.tup [],k,ol.map (·++[62])):=by
 refine Bb v ⟨Qa rfl,λh=>CI r h,λl h=>CH r h,λi m fr t x j f n0=>?_⟩;have hW:=Wt.start x j;unfold Ts;have y:=AM x.1;unfold HO at *;simp only[↓C2,HH,HZ,HB,simprocAttr,y,AE SV 218];refine Au hW z (λM c1 c2=>?_);have y:=AM c1.at_.1;simp only[HG,↓C2,HB,simprocAttr,y,n0,AE SV 223,g];have a1:=aFI (((c1.put (q:=11) (p:=0) (ys:=[.int .i64 0,.bool false,.int .i64 0,.slice true [] []])).put (q:=11) (p:=0) (ys:=[.int .i64 s.mx,.bool s.cas,.int .i64 s.la,.slice s.nl [] (Bd s.rs)])).at_.1);refine aRU c1.put.put.at_ c ?_;simp only[HG,↓C2,HB,simprocAttr,y,n0,Ae SV 222,d];refine bW ?_;simp only[HG,↓C2,HB,simprocAttr,AE SV 224];refine Au c1.put.put.put.put r (λM2 u d2=>?_);simp only[↓C2,HH,simprocAttr];exact u.endc x.2.2
def pS(w:Wb)(o:Oc)(s:Sc)(b:Oc)(ol:Option (List Nat))(v:o.nl=true->o.ops=[])(z:De w o [.str w.a.pa]=some (.tup [.agg (HO s),.bool true,.bool true],o,none))(q:w.a.op=11)(g:Sc)(e:Int)(r:WR w o [.agg (HO g),.slice true [] [],.int .i64 e]=some (.tup [],b,ol))(k:aLi [.agg (HO s),.slice w.a.nln [] (AI w.a.ns)]=some (.tup [.agg (HO g),.int .i64 e])):U_ w o []=some (.tup [],b,ol.map (·++[71])):=by
 refine Bb v ⟨Qa rfl,λh=>CI r h,λl h=>CH r h,λi m fr t x j f n0=>?_⟩;have d:=Wt.start x j;unfold Ts;have y:=AM x.1;unfold HO at *;simp only[↓C2,HH,HZ,HB,simprocAttr,y,AE SV 218];refine Au d z (λM c1 c2=>?_);have y:=AM c1.at_.1;simp only[HG,↓C2,HB,simprocAttr,y,n0,Ae SV 226,k,q];refine bW ?_;simp only[HG,↓C2,HB,simprocAttr,AE SV 224];refine Au c1.put.put.put.put r (λn u p=>?_);simp only[↓C2,HH,simprocAttr];exact u.endc x.2.2
def WN(w:Wb)(o:Oc)(s:Sc)(b:Oc)(ol:Option (List Nat))(v:o.nl=true->o.ops=[])(z:De w o [.str w.a.pa]=some (.tup [.agg (HO s),.bool true,.bool true],o,none))(q:w.a.op=12)(g:Sc)(e:Int)(r:WR w o [.agg (HO g),.slice true [] [],.int .i64 e]=some (.tup [],b,ol))(k:aLg [.agg (HO s),.slice w.a.nln [] (AI w.a.ns)]=some (.tup [.agg (HO g),.int .i64 e])):U_ w o []=some (.tup [],b,ol.map (·++[78])):=by
 refine Bb v ⟨Qa rfl,λh=>CI r h,λl h=>CH r h,λi m fr t x j f n0=>?_⟩;have d:=Wt.start x j;unfold Ts;have y:=AM x.1;unfold HO at *;simp only[↓C2,HH,HZ,HB,simprocAttr,y,AE SV 218];refine Au d z (λM c1 c2=>?_);have y:=AM c1.at_.1;simp only[HG,↓C2,HB,simprocAttr,y,n0,Ae SV 227,k,q];refine bW ?_;simp only[HG,↓C2,HB,simprocAttr,AE SV 224];refine Au c1.put.put.put.put r (λn u p=>?_);simp only[↓C2,HH,simprocAttr];exact u.endc x.2.2
def iV(w:Wb)(o:Oc)(s:Sc)(b:Oc)(ol:Option (List Nat))(v:o.nl=true->o.ops=[])(z:De w o [.str w.a.pa]=some (.tup [.agg (HO s),.bool true,.bool true],o,none))(q:w.a.op=13)(g:Sc)(gnl:Bool)(gone:List Int)(e:Int)(r:WR w o [.agg (HO g),.slice gnl [] (AI gone),.int .i64 e]=some (.tup [],b,ol))(k:aLe [.agg (HO s),.slice w.a.nln [] (AI w.a.ns)]=some (.tup [.agg (HO g),.slice gnl [] (AI gone),.int .i64 e])):U_ w o []=some (.tup [],b,ol.map (·++[81])):=by
 refine Bb v ⟨Qa rfl,λh=>CI r h,λl h=>CH r h,λi m fr t x j f n0=>?_⟩;have d:=Wt.start x j;unfold Ts;have y:=AM x.1;unfold HO at *;simp only[↓C2,HH,HZ,HB,simprocAttr,y,AE SV 218];refine Au d z (λM c1 c2=>?_);have y:=AM c1.at_.1;simp only[HG,↓C2,HB,simprocAttr,y,n0,Ae SV 228,k,q];refine bW ?_;simp only[HG,↓C2,HB,simprocAttr,AE SV 224];refine Au c1.put.put.put.put r (λn u p=>?_);simp only[↓C2,HH,simprocAttr];exact u.endc x.2.2
def Is:=Aq [(218,wQ De),(144,wQ Pz),(219,Ac O4),(211,Ac FN),(220,Ac PL),(216,wQ WU),(145,wQ iY),(221,wQ WT)]
def bY:Wb->Oc->List D->Option WY:=RW Is OO [] 113
def aYW:(wQ bY).ok Qc 153:=Dw (Aj func153) (Aa aMO (Aa Tm (Aa aWA (Aa Lh (Aa aMN (Aa aDb (Aa mZ (Aa aMM Ad))))))))
def aFX(w:Wb)(o:Oc)(s:Sc)(e:Bool)(b:Oc)(v:o.nl=true->o.ops=[])(z:De w o [.str w.a.pa]=some (.tup [.agg (HO s),.bool e,.bool false],b,none)):bY w o []=some (.tup [],b,none):=by
 refine Bb v ⟨Qa rfl,λh=>((Fl z).2.1 rfl),λl h=>Xc,λi m fr t x j f n0=>?_⟩;have d:=Wt.start x j;unfold OO;have y:=AM x.1;unfold HO at *;simp only[↓C2,HH,HZ,HB,simprocAttr,y,AE Is 218];refine Au d z (λM c1 c2=>?_);simp only[HG,↓C2,HB,simprocAttr];exact c1.put.put.end0 x.2.2
def aFW(w:Wb)(o:Oc)(s:Sc)(b:Oc)(ol:Option (List Nat))(v:o.nl=true->o.ops=[])(z:De w o [.str w.a.pa]=some (.tup [.agg (HO s),.bool false,.bool true],o,none))(r:Pz w o [.int .i64 6]=some (.tup [],b,ol)):bY w o []=some (.tup [],b,ol.map (·++[20])):=by
 refine Bb v ⟨Qa rfl,λh=>CI r h,λl h=>CH r h,λi m fr t x j f n0=>?_⟩;have d:=Wt.start x j;unfold OO;have y:=AM x.1;unfold HO at *;simp only[↓C2,HH,HZ,HB,simprocAttr,y,AE Is 218];refine Au d z (λM c1 c2=>?_);have y:=AM c1.at_.1;simp only[HG,↓C2,HB,simprocAttr,AE Is 144];refine Au c1.put.put r (λn u p=>?_);simp only[↓C2,HH,simprocAttr];exact u.endc x.2.2
def aAM(w:Wb)(o:Oc)(s:Sc)(b:Oc)(ol:Option (List Nat))(v:o.nl=true->o.ops=[])(z:De w o [.str w.a.pa]=some (.tup [.agg (HO s),.bool true,.bool true],o,none))(q:w.a.op=9)(nn e:Int)(y k:Bool)(p:O4 [.agg (HO s),.int .i64 (w.a.n)]=some (.tup [.agg [.int .i64 nn,.bool y,.bool k],.int .i64 e]))(c:e≠0)(r:Pz w o [.int .i64 e]=some (.tup [],b,ol)):bY w o []=some (.tup [],b,ol.map (·++[44])):=by
 refine Bb v ⟨Qa rfl,λh=>CI r h,λl h=>CH r h,λi m fr t x j f n0=>?_⟩;have d:=Wt.start x j;unfold OO;have g:=AM x.1;unfold HO at *;simp only[↓C2,HH,HZ,HB,simprocAttr,g,AE Is 218];refine Au d z (λM c1 c2=>?_);have g:=AM c1.at_.1;simp only[HG,↓C2,HB,simprocAttr,g,n0,Ae Is 219,p,eq_false c,AE Is 144,q];refine Au c1.put.put.put.put r (λM2 u d2=>?_);simp only[↓C2,HH,simprocAttr];exact u.endc x.2.2
def aAL(w:Wb)(o:Oc)(s:Sc)(o2:Oc)(ol:Option (List Nat))(v:o.nl=true->o.ops=[])(z:De w o [.str w.a.pa]=some (.tup [.agg (HO s),.bool true,.bool true],o,none))(q:w.a.op=9)(nn:Int)(y rb:Bool)(b:O4 [.agg (HO s),.int .i64 (w.a.n)]=some (.tup [.agg [.int .i64 nn,.bool y,.bool rb],.int .i64 0]))(at_ d:Bs)(e:Bool)(r:FN [.int .u8 2,.str w.a.pa,.int .i64 nn]=some (.str at_))(c:PL [.agg (Im w.k),.str at_]=some (.tup [.str d,.bool e,.bool false]))(la:WU w o [.str at_,.bool false]=some (.tup [],o2,ol)):bY w o []=some (.tup [],o2,ol.map (·++[69])):=by
 refine Bb v ⟨Qa rfl,λh=>CI la h,λl h=>CH la h,λi m fr t x j f n0=>?_⟩;have hW:=Wt.start x j;unfold OO;have xx:=AM x.1;unfold HO at *;unfold Im at c;simp only[↓C2,HH,HZ,HB,simprocAttr,xx,AE Is 218];refine Au hW z (λM c1 c2=>?_);have xx:=AM c1.at_.1;simp only[HG,↓C2,HB,simprocAttr,xx,n0,Ae Is 219,b,Ae Is 211,r,q];refine aB (λp g=>Xm) ?_;simp only[HG,↓C2,HB,simprocAttr,xx,n0,Ae Is 220,c,AE Is 216];refine Au c1.put.put.put.put la (λM2 u d2=>?_);simp only[↓C2,HH,simprocAttr];exact u.endc x.2.2
def iW(w:Wb)(o:Oc)(s:Sc)(o2:Oc)(ol:Option (List Nat))(v:o.nl=true->o.ops=[])(z:De w o [.str w.a.pa]=some (.tup [.agg (HO s),.bool true,.bool true],o,none))(q:w.a.op=9)(nn:Int)(y rb:Bool)(b:O4 [.agg (HO s),.int .i64 (w.a.n)]=some (.tup [.agg [.int .i64 nn,.bool y,.bool rb],.int .i64 0]))(at_ d:Bs)(r:FN [.int .u8 2,.str w.a.pa,.int .i64 nn]=some (.str at_))(c:PL [.agg (Im w.k),.str at_]=some (.tup [.str d,.bool true,.bool true]))(ta:iY w o [.agg (Iv (.found nn d))]=some (.tup [],o2,ol)):bY w o []=some (.tup [],o2,ol.map (·++[81])):=by
 refine Bb v ⟨Qa rfl,λh=>CI ta h,λl h=>CH ta h,λi m fr t x j f n0=>?_⟩;have hW:=Wt.start x j;unfold OO;have e:=AM x.1;unfold HO at *;unfold Im at c;simp only[↓C2,HH,HZ,HB,simprocAttr,e,AE Is 218];refine Au hW z (λM c1 c2=>?_);have e:=AM c1.at_.1;simp only[HG,↓C2,HB,simprocAttr,e,n0,Ae Is 219,b,Ae Is 211,r,q];refine aB (λp g=>Xm) ?_;simp only[HG,↓C2,HB,simprocAttr,e,n0,Ae Is 220,c,AE Is 145,q];refine Au c1.put.put.put.put ta (λM2 u d2=>?_);simp only[↓C2,HH,simprocAttr];exact u.endc x.2.2
def WO(w:Wb)(o:Oc)(s:Sc)(o2:Oc)(ol:Option (List Nat))(v:o.nl=true->o.ops=[])(z:De w o [.str w.a.pa]=some (.tup [.agg (HO s),.bool true,.bool true],o,none))(q:w.a.op=9)(nn:Int)(y rb:Bool)(b:O4 [.agg (HO s),.int .i64 (w.a.n)]=some (.tup [.agg [.int .i64 nn,.bool y,.bool rb],.int .i64 0]))(at_ d:Bs)(r:FN [.int .u8 2,.str w.a.pa,.int .i64 nn]=some (.str at_))(c:PL [.agg (Im w.k),.str at_]=some (.tup [.str d,.bool false,.bool true]))(ta:iY w o [.agg (Iv (.found nn []))]=some (.tup [],o2,ol)):bY w o []=some (.tup [],o2,ol.map (·++[82])):=by
 refine Bb v ⟨Qa rfl,λh=>CI ta h,λl h=>CH ta h,λi m fr t x j f n0=>?_⟩;have hW:=Wt.start x j;unfold OO;have e:=AM x.1;unfold HO at *;unfold Im at c;simp only[↓C2,HH,HZ,HB,simprocAttr,e,AE Is 218];refine Au hW z (λM c1 c2=>?_);have e:=AM c1.at_.1;simp only[HG,↓C2,HB,simprocAttr,e,n0,Ae Is 219,b,Ae Is 211,r,q];refine aB (λp g=>Xm) ?_;simp only[HG,↓C2,HB,simprocAttr,e,n0,Ae Is 220,c,AE Is 145,q];refine Au c1.put.put.put.put ta (λM2 u d2=>?_);simp only[↓C2,HH,simprocAttr];exact u.endc x.2.2
def pV(w:Wb)(o:Oc)(s:Sc)(b:Oc)(ol:Option (List Nat))(v:o.nl=true->o.ops=[])(z:De w o [.str w.a.pa]=some (.tup [.agg (HO s),.bool true,.bool true],o,none))(q:w.a.op=18)(nn e:Int)(y k:Bool)(p:O4 [.agg (HO s),.int .i64 (0)]=some (.tup [.agg [.int .i64 nn,.bool y,.bool k],.int .i64 e]))(c:e≠0)(r:Pz w o [.int .i64 e]=some (.tup [],b,ol)):bY w o []=some (.tup [],b,ol.map (·++[45])):=by
 refine Bb v ⟨Qa rfl,λh=>CI r h,λl h=>CH r h,λi m fr t x j f n0=>?_⟩;have d:=Wt.start x j;unfold OO;have g:=AM x.1;unfold HO at *;simp only[↓C2,HH,HZ,HB,simprocAttr,g,AE Is 218];refine Au d z (λM c1 c2=>?_);have g:=AM c1.at_.1;simp only[HG,↓C2,HB,simprocAttr,g,n0,Ae Is 219,p,eq_false c,AE Is 144,q];refine Au c1.put.put.put.put r (λn u d2=>?_);simp only[↓C2,HH,simprocAttr];exact u.endc x.2.2
def pU(w:Wb)(o:Oc)(s:Sc)(o2:Oc)(ol:Option (List Nat))(v:o.nl=true->o.ops=[])(z:De w o [.str w.a.pa]=some (.tup [.agg (HO s),.bool true,.bool true],o,none))(q:w.a.op=18)(nn:Int)(y rb:Bool)(b:O4 [.agg (HO s),.int .i64 (0)]=some (.tup [.agg [.int .i64 nn,.bool y,.bool rb],.int .i64 0]))(at_ d:Bs)(e:Bool)(r:FN [.int .u8 2,.str w.a.pa,.int .i64 nn]=some (.str at_))(c:PL [.agg (Im w.k),.str at_]=some (.tup [.str d,.bool e,.bool false]))(n:WU w o [.str at_,.bool false]=some (.tup [],o2,ol)):bY w o []=some (.tup [],o2,ol.map (·++[70])):=by
 refine Bb v ⟨Qa rfl,λh=>CI n h,λl h=>CH n h,λi m fr t x j f n0=>?_⟩;have hW:=Wt.start x j;unfold OO;have xx:=AM x.1;unfold HO at *;unfold Im at c;simp only[↓C2,HH,HZ,HB,simprocAttr,xx,AE Is 218];refine Au hW z (λM c1 c2=>?_);have xx:=AM c1.at_.1;simp only[HG,↓C2,HB,simprocAttr,xx,n0,Ae Is 219,b,Ae Is 211,r,q];refine aB (λp g=>Xm) ?_;simp only[HG,↓C2,HB,simprocAttr,xx,n0,Ae Is 220,c,AE Is 216];refine Au c1.put.put.put.put n (λM2 u d2=>?_);simp only[↓C2,HH,simprocAttr];exact u.endc x.2.2
def O_(w:Wb)(o:Oc)(s:Sc)(o2:Oc)(v:o.nl=true->o.ops=[])(z:De w o [.str w.a.pa]=some (.tup [.agg (HO s),.bool true,.bool true],o,none))(q:w.a.op=18)(nn:Int)(ra rb:Bool)(b:O4 [.agg (HO s),.int .i64 (0)]=some (.tup [.agg [.int .i64 nn,.bool ra,.bool rb],.int .i64 0]))(at_ d:Bs)(r:FN [.int .u8 2,.str w.a.pa,.int .i64 nn]=some (.str at_))(c:PL [.agg (Im w.k),.str at_]=some (.tup [.str d,.bool true,.bool true]))(s2:Sc)(n:Bool)(y:De w o [.str w.a.ot]=some (.tup [.agg (HO s2),.bool n,.bool false],o2,none)):bY w o []=some (.tup [],o2,none):=by
 refine Bb v ⟨Qa rfl,λh=>((Fl y).2.1 rfl),λl h=>Xc,λi m fr t x j f n0=>?_⟩;have hW:=Wt.start x j;unfold OO;have e:=AM x.1;unfold HO at *;unfold Im at c;simp only[↓C2,HH,HZ,HB,simprocAttr,e,AE Is 218];refine Au hW z (λM c1 c2=>?_);have e:=AM c1.at_.1;simp only[HG,↓C2,HB,simprocAttr,e,n0,Ae Is 219,b,Ae Is 211,r,q];refine aB (λp g=>Xm) ?_;simp only[HG,↓C2,HB,simprocAttr,e,n0,Ae Is 220,c,AE Is 218,q];refine Au c1.put.put.put.put y (λM2 u d2=>?_);have e:=AM u.at_.1;simp only[HG,↓C2,HB,simprocAttr];exact u.put.put.end0 x.2.2
def iX(w:Wb)(o:Oc)(s:Sc)(o2:Oc)(ol:Option (List Nat))(ho:o.nl=true->o.ops=[])(z:De w o [.str w.a.pa]=some (.tup [.agg (HO s),.bool true,.bool true],o,none))(q:w.a.op=18)(nn:Int)(ra rb:Bool)(b:O4 [.agg (HO s),.int .i64 (0)]=some (.tup [.agg [.int .i64 nn,.bool ra,.bool rb],.int .i64 0]))(at_ d:Bs)(r:FN [.int .u8 2,.str w.a.pa,.int .i64 nn]=some (.str at_))(c:PL [.agg (Im w.k),.str at_]=some (.tup [.str d,.bool true,.bool true]))(s2:Sc)(la:Bool)(y:De w o [.str w.a.ot]=some (.tup [.agg (HO s2),.bool la,.bool true],o,none))(e:WT w o [.str w.a.ot,.agg (HO s2),.int .i64 (-1),.str d]=some (.tup [],o2,ol)):bY w o []=some (.tup [],o2,ol.map (·++[101])):=by
 refine Bb ho ⟨Qa rfl,λh=>CI e h,λl h=>CH e h,λi m fr t x j f n0=>?_⟩;have hW:=Wt.start x j;unfold OO;have xx:=AM x.1;unfold HO at *;unfold Im at c;simp only[↓C2,HH,HZ,HB,simprocAttr,xx,AE Is 218];refine Au hW z (λM c1 c2=>?_);have xx:=AM c1.at_.1;simp only[HG,↓C2,HB,simprocAttr,xx,n0,Ae Is 219,b,Ae Is 211,r,q];refine aB (λp g=>Xm) ?_;simp only[HG,↓C2,HB,simprocAttr,xx,n0,Ae Is 220,c,AE Is 218,q];refine Au c1.put.put.put.put y (λM2 d1 d2=>?_);have xx:=AM d1.at_.1;simp only[HG,↓C2,HB,simprocAttr,xx,n0,AE Is 221];refine CF d1.put.put e (λM3 u hu v n=>?_);simp only[↓C2,Iz,simprocAttr];refine aB (λp g=>Xm) ?_;simp only[↓C2,HH,simprocAttr];exact v.endc x.2.2
def N1(w:Wb)(o:Oc)(s:Sc)(o2:Oc)(v:o.nl=true->o.ops=[])(z:De w o [.str w.a.pa]=some (.tup [.agg (HO s),.bool true,.bool true],o,none))(q:w.a.op=18)(nn:Int)(ra rb:Bool)(b:O4 [.agg (HO s),.int .i64 (0)]=some (.tup [.agg [.int .i64 nn,.bool ra,.bool rb],.int .i64 0]))(at_ d:Bs)(r:FN [.int .u8 2,.str w.a.pa,.int .i64 nn]=some (.str at_))(c:PL [.agg (Im w.k),.str at_]=some (.tup [.str d,.bool false,.bool true]))(s2:Sc)(n:Bool)(y:De w o [.str w.a.ot]=some (.tup [.agg (HO s2),.bool n,.bool false],o2,none)):bY w o []=some (.tup [],o2,none):=by
 refine Bb v ⟨Qa rfl,λh=>((Fl y).2.1 rfl),λl h=>Xc,λi m fr t x j f n0=>?_⟩;have hW:=Wt.start x j;unfold OO;have e:=AM x.1;unfold HO at *;unfold Im at c;simp only[↓C2,HH,HZ,HB,simprocAttr,e,AE Is 218];refine Au hW z (λM c1 c2=>?_);have e:=AM c1.at_.1;simp only[HG,↓C2,HB,simprocAttr,e,n0,Ae Is 219,b,Ae Is 211,r,q];refine aB (λp g=>Xm) ?_;simp only[HG,↓C2,HB,simprocAttr,e,n0,Ae Is 220,c,AE Is 218,q];refine Au c1.put.put.put.put y (λM2 u d2=>?_);have e:=AM u.at_.1;simp only[HG,↓C2,HB,simprocAttr];exact u.put.put.end0 x.2.2
def WP(w:Wb)(o:Oc)(s:Sc)(o2:Oc)(ol:Option (List Nat))(ho:o.nl=true->o.ops=[])(z:De w o [.str w.a.pa]=some (.tup [.agg (HO s),.bool true,.bool true],o,none))(q:w.a.op=18)(nn:Int)(ra rb:Bool)(b:O4 [.agg (HO s),.int .i64 (0)]=some (.tup [.agg [.int .i64 nn,.bool ra,.bool rb],.int .i64 0]))(at_ d:Bs)(r:FN [.int .u8 2,.str w.a.pa,.int .i64 nn]=some (.str at_))(c:PL [.agg (Im w.k),.str at_]=some (.tup [.str d,.bool false,.bool true]))(s2:Sc)(la:Bool)(y:De w o [.str w.a.ot]=some (.tup [.agg (HO s2),.bool la,.bool true],o,none))(e:WT w o [.str w.a.ot,.agg (HO s2),.int .i64 (-1),.str []]=some (.tup [],o2,ol)):bY w o []=some (.tup [],o2,ol.map (·++[102])):=by
 refine Bb ho ⟨Qa rfl,λh=>CI e h,λl h=>CH e h,λi m fr t x j f n0=>?_⟩;have hW:=Wt.start x j;unfold OO;have xx:=AM x.1;unfold HO at *;unfold Im at c;simp only[↓C2,HH,HZ,HB,simprocAttr,xx,AE Is 218];refine Au hW z (λM c1 c2=>?_);have xx:=AM c1.at_.1;simp only[HG,↓C2,HB,simprocAttr,xx,n0,Ae Is 219,b,Ae Is 211,r,q];refine aB (λp g=>Xm) ?_;simp only[HG,↓C2,HB,simprocAttr,xx,n0,Ae Is 220,c,AE Is 218,q];refine Au c1.put.put.put.put y (λM2 d1 d2=>?_);have xx:=AM d1.at_.1;simp only[HG,↓C2,HB,simprocAttr,xx,n0,AE Is 221];refine CF d1.put.put e (λM3 u hu v n=>?_);simp only[↓C2,Iz,simprocAttr];refine aB (λp g=>Xm) ?_;simp only[↓C2,HH,simprocAttr];exact v.endc x.2.2
def aOk:=y0 f141 [] []
def aO3:=y0 f85 [] []
end Go.Vd
namespace Go.Proofs
open Go.Shelf
def aQ:Go.Shelf.Ren:=⟨λ|105=>84|212=>139|99=>51|165=>121|166=>122|170=>140|169=>123|263=>204|264=>205|206=>105|240=>183|241=>184|276=>245|277=>246|n=>n,λ|9=>9|3=>3|4=>4|20=>20|0=>0|46=>109|109=>221|5=>5|72=>196|76=>200|51=>268|146=>269|53=>185|148=>271|70=>194|37=>108|75=>199|127=>252|164=>309|80=>159|n=>n,λ|n=>n⟩
def bI:Go.Proofs.Lays.n105 Qc aQ:={
 mixed:=Z
 f99:=func51.trans (congrArg some Z)
 f105:=func84.trans (congrArg some Z)
 f165:=func121.trans (congrArg some Z)
 f166:=func122.trans (congrArg some Z)
 f169:=func123.trans (congrArg some Z)
 f170:=func140.trans (congrArg some Z)
 f206:=func105.trans (congrArg some Z)
 f212:=func139.trans (congrArg some Z)
 f240:=func183.trans (congrArg some Z)
 f241:=func184.trans (congrArg some Z)
 f263:=func204.trans (congrArg some Z)
 f264:=func205.trans (congrArg some Z)
 f276:=func245.trans (congrArg some Z)
 f277:=func246.trans (congrArg some Z)
 t0:=underlying0
 a0:=isAgg0
 z0:=sizeOf0
 v0:=zeroValue0
 t3:=underlying3
 a3:=isAgg3
 z3:=sizeOf3
 v3:=zeroValue3
 t4:=underlying4
 a4:=isAgg4
 z4:=sizeOf4
 v4:=zeroValue4
 t5:=underlying5
 a5:=isAgg5
 z5:=sizeOf5
 v5:=zeroValue5
 t9:=underlying9
 a9:=isAgg9
 z9:=sizeOf9
 v9:=zeroValue9
 t20:=underlying20
 a20:=isAgg20
 z20:=sizeOf20
 v20:=zeroValue20
 t37:=underlying108
 a37:=isAgg108
 z37:=sizeOf108
 v37:=zeroValue108
 t46:=underlying109
 a46:=isAgg109
 z46:=sizeOf109
 v46:=zeroValue109
 t51:=underlying268
 a51:=isAgg268
 z51:=sizeOf268
 v51:=zeroValue268
 t53:=underlying185
 a53:=isAgg185
 z53:=sizeOf185
 v53:=zeroValue185
 t70:=underlying194
 a70:=isAgg194
 z70:=sizeOf194
 v70:=zeroValue194
 t72:=underlying196
 a72:=isAgg196
 z72:=sizeOf196
 v72:=zeroValue196
 t75:=underlying199
 a75:=isAgg199
 z75:=sizeOf199
 v75:=zeroValue199
 t76:=underlying200
 a76:=isAgg200
 z76:=sizeOf200
 v76:=zeroValue200
 t109:=underlying221
 a109:=isAgg221
 z109:=sizeOf221
 v109:=zeroValue221
 t127:=underlying252
 a127:=isAgg252
 z127:=sizeOf252
 v127:=zeroValue252
 t146:=underlying269
 a146:=isAgg269
 z146:=sizeOf269
 v146:=zeroValue269
 t148:=underlying271
 a148:=isAgg271
 z148:=sizeOf271
 v148:=zeroValue271
 t164:=underlying309
 a164:=isAgg309
 z164:=sizeOf309
 v164:=zeroValue309}
def aT:Builder.Extra Qc aQ:={
 sizeBuilder:=Z
 liesBuilder:=Z
 t5:=underlying5
 a5:=isAgg5
 z5:=sizeOf5
 v5:=zeroValue5
 infoByte:=Z
 cellsByte:=Z
 sizeByte:=Z
 neB5:=V}
end Go.Proofs
namespace Go.Vd
open Go.Proofs Go.RowKit
def mP(t:Int):Bool:=decide (1<=t∧t<=6)
def Gl(t:Int):Int:=if mP t=true then 1+t*16 else 0
def aZE:=Aq []
def aTd:=RF aZE aOk [.t 2] 9
def aWo:Kq aTd 141:=An (Aj func141) Ad
def aK6(t:Int):aTd [.int .i64 t]=some (.bool (mP t)):=by
 refine Am (Qa rfl) ?_;unfold aOk;unfold mP;by_cases c:1<=t
 ·have c':((1:Int)<=t)=True:=eq_true c;simp only[↓C2,HE,HB,simprocAttr,c']
  all_goals exact Y2
 ·have c':((1:Int)<=t)=False:=eq_false c;simp only[↓C2,HE,HB,simprocAttr,c']
  all_goals exact Y2
def aSK:=Aq [(141,Ac aTd)]
def jI:=RF aSK aO3 [.t 2] 9
def aDc:Kq jI 85:=An (Aj func85) (Aa aWo Ad)
def Rs(t:Int):jI [.int .i64 t]=some (.int .i64 (Gl t)):=by
 refine Am (Qa rfl) ?_;unfold aO3;have a:=aK6 t;unfold Gl;cases c:mP t with
 |false=>
  rw[c]at a;simp only[↓C2,HE,HB,simprocAttr,Ae aSK 141,a]
  all_goals exact Y2
 |true=>
  have f:1<=t∧t<=6:=by simpa[mP]using c
  have s:IntKind.i64.wrap (t*16)=t*16:=H9 O O;have p:IntKind.i64.wrap (1+t*16)=1+t*16:=H9 O O;rw[c]at a;simp only[↓C2,HE,HB,simprocAttr,Ae aSK 141,a,s,p]
  all_goals exact Y2
def RP:List D->Option D
 |[.str s,.int .i64 c]=>if 0<=c∧c<=1000000∧s.length*c.toNat<=1000000 then some (.str (Lib.repeatL s c.toNat))else none
 |_=>none
def aMR:Kq RP 84:=VF ⟨_,func84,Z,Z⟩ λds r h=>by
 unfold RP at h;split at h
 ·rename_i s c;split at h
  ·rename_i hc;simp only[Qt]at h;subst h;refine⟨λd z=>?_,_,λw g=> .str _,λw=>?_⟩
   ·simp only[Qn,List.mem_nil_iff,or_false]at z;rcases z with rfl|rfl<;>rfl
   ·have b:=Go.Proofs.Any.strings_Repeat bI aT ⟨s.toArray⟩ c.toNat w O (by show s.toArray.size*_<=_;simp only[List.size_toArray];omega);rw[QW hc.1]at b;refine b.mono ?_;rintro e w' ⟨rfl,f⟩;exact⟨rfl,f⟩
  ·cases h
 ·cases h
def aX6{s:Bs}{c:Int}(h:0<=c∧c<=1000000∧s.length*c.toNat<=1000000):RP [.str s,.int .i64 c]=some (.str (Lib.repeatL s c.toNat)):=if_pos h
def dG(o:Oc)(te:Int):Oc:={({o with vw:={o.vw with te:=te+1}}:Oc).op 1 (Ao 5 [] 0) (Lib.repeatL [0] (Gl (te+1)).toNat)with rep:=IY .done}
def S57:=Aq [(144,wQ Pz),(211,Ac FN),(85,Ac jI),(84,Ac RP),(210,wQ O0),(146,wQ W56)]
def W57:Wb->Oc->List D->Option WY:=RW S57 aR9 [] 34
def aY2:(wQ W57).ok Qc 147:=Dw (Aj func147) (Aa Tm (Aa Lh (Aa aDc (Aa aMR (Aa Nv (Aa mY Ad))))))
def aF5(w:Wb)(o:Oc)(b:Oc)(ol:Option (List Nat))(k:o.nl=true->o.ops=[])(s:6<=w.v.te)(r:Pz w o [.int .i64 19]=some (.tup [],b,ol)):W57 w o []=some (.tup [],b,ol.map (·++[7])):=by
 refine Bb k ⟨Qa rfl,λh=>CI r h,λl h=>CH r h,λi m fr t x j f n0=>?_⟩;have d:=Wt.start x j;unfold aR9;have y:=AM x.1;simp only[↓C2,HH,HZ,HB,simprocAttr,y,eq_true s,AE S57 144];refine Au d r (λM c1 c2=>?_);simp only[↓C2,HH,simprocAttr];exact c1.endc x.2.2
def aSy(w:Wb)(o:Oc)(te:Int)(b:kV o)(ht:¬6<=w.v.te)(y:o.vw.te=te)(f:0<=te∧te<=5):W57 w o []=some (.tup [],dG o te,some ([11,28])):=by
 refine Bb (λ_=>b.ops) ⟨Qa rfl,λh=>Xc,λl h=>XF,λi m fr t x j ja n0=>?_⟩;have hW:=Wt.start x j;unfold aR9;have e:=AM x.1;have k:IntKind.i64.wrap (te+1)=te+1:=H9 O O;have r:=C5 5 0 [] U;have d:=Rs (te+1);have hl:0<=Gl (te+1)∧Gl (te+1)<=1000:=by unfold Gl;split<;>omega
 have a:=aX6 (s:=[0]) (c:=Gl (te+1)) ⟨hl.1,O,YF⟩;have na:=D4 w {o with vw:={o.vw with te:=te+1}} 1 (Ao 5 [] 0) (Lib.repeatL [0] (Gl (te+1)).toNat) (λ_=>b.ops) (by simp only[b.ops];simp);have z:=LB w (({o with vw:={o.vw with te:=te+1}}:Oc).op 1 (Ao 5 [] 0) (Lib.repeatL [0] (Gl (te+1)).toNat)) (λh=>Xc);have hc:=hW.cellp (p:=26) (ys:=[.int .i64 (te+1)]) (o':={o with vw:={o.vw with te:=te+1}}) (Qa rfl) rfl rfl rfl;simp only[HG,↓C2,HB,simprocAttr,e,eq_false ht,k,Ae S57 211,r,Ae S57 85,d,Ae S57 84,a,AE S57 210,y];refine CF hc na (λM u hu c1 c2=>?_);simp only[↓C2,Iz,simprocAttr];refine aB ?_ ?_
 ·intro pp q l hl;simp only[Qn,Zl,or_false]at q;subst q;exact EF hl
 simp only[↓C2,HH,HZ,simprocAttr,AE S57 146];refine Au c1 z (λn d1 d2=>?_);simp only[↓C2,HH,simprocAttr];exact d1.endl (l:=[11,28]) U
def aEw:=y0 Tryz.f212 [] []
def aUj{P:Program}{f:FuncId}{A B:List D->Option D}(k:(Ac A).ok P f)(j:(Ac B).ok P f):(Ac λds=>(A ds).or (B ds)).ok P f:=by
 refine⟨k.1,λds m m' fr _=>rfl,?_⟩;intro s w0 w m g fr ds vs r u hi y hl c z;have h:(Ac A).ex ds m fr=some (r,u)∨(Ac B).ex ds m fr=some (r,u):=by
  simp only[Ac]at z ⊢;split at z
  ·rename_i d;simp only[d,if_true];cases ha:A (ds.map D.un)with
   |none=>rw[ha]at z;exact .inr z
   |some x=>rw[ha]at z;exact .inl z
  ·cases z
 rcases h with h|h
 ·obtain⟨_,_,o⟩:=k;exact o hi y hl c h
 ·obtain⟨_,_,o⟩:=j;exact o hi y hl c h
def growZ:Il where
 rd:=λ_ _=>[]
 ex:=λds _ _=>match ds with
  |[.slice true _ [],.int .i64 0]=>some (.slice true [] [],[])
  |_=>none
def aBs(w:World):Calls Qc 250 #[.slice none 0 0,.int .i64 0] w λe w'=>e= .returned (.slice none 0 0)∧w'=w:=by
 go_enter func250,ntmps250
 go_wp2
 all_goals go_ret
 all_goals exact⟨rfl,rfl⟩
def aYR:growZ.ok Qc 250:=by
 refine⟨⟨_,func250,Z,Z⟩,λds m m' fr _=>rfl,?_⟩;intro B w0 w m g fr ds vs r u hi y hl c z;simp only[growZ]at z;split at z
 ·simp only[Qt,QU]at z;obtain⟨rfl,rfl⟩:=z
  match vs,hl with
  |[v0,v1],_=>
   have n:=c 0 _ v0 rfl rfl;have q:=(c 1 _ v1 rfl rfl).int_inv;subst q;have b:v0= .slice none 0 0:=by
    rcases n.slice_inv with ⟨_,_,e⟩|⟨h,_⟩
    ·exact e
    ·cases h
   subst b;refine(aBs w).mono ?_;rintro ev w' ⟨rfl,p⟩;subst p;have f:=Below.refl w'.heap.size w';exact⟨_,g.over w' w',rfl,hi.over f,H5.over hi.gz f,.nils _,λi k _=>k⟩
 ·cases z
def aPu:=Aq [(250,growZ)]
def aGX:=RF aPu (G7 9 68 3 32 250) [.t 2] 36
def aRo:Kq aGX 190:=An aD0 (Aa aYR Ad)
def aDR{m:HF}{fr:Id}:growZ.ex [.slice true [] [],.int .i64 0] m fr=some (.slice true [] [],[]):=rfl
def aGW{t:Id}:aGX [.slice false [] [.slice false [] [],.slice false [] []]]=some (.slice true [] []):=by
 refine Am (Qa rfl) ?_;have a:aPu 250=some growZ:=rfl;have w0:IntKind.i64.wrap 0=0:=rfl;have s:IntKind.i64.wrap 1=1:=rfl;have p:IntKind.i64.wrap 2=2:=rfl;have y0:((0:Nat):Int)=0:=rfl;have y1:((1:Nat):Int)=1:=rfl;have y2:((2:Nat):Int)=2:=rfl;have j:(0:Int)+1=1:=rfl;have r:(1:Int)+1=2:=rfl;unfold G7;simp only[↓C2,HH,HB,simprocAttr,Qg,Qb];refine Af (MS.eq_1 _) ?_;simp only[↓C2,HE,HB,simprocAttr,y0,w0,s,j,Q1,Qg,Qb];refine Af (MS.eq_1 _) ?_;simp only[↓C2,HE,HB,simprocAttr,y0,w0,p,r,ZC,Qg,Qb];refine Af (MS.eq_1 _) ?_;simp only[↓C2,HE,HB,simprocAttr,AH a,aDR,Qg,Qb];refine Af (MR.eq_1 _ _ _) ?_;simp only[↓C2,HE,HB,simprocAttr,s,j,Q1,Qg,Qb];refine Af (MR.eq_1 _ _ _) ?_;simp only[↓C2,HE,HB,simprocAttr,p,r,ZC,Qg,Qb];refine Af (MR.eq_1 _ _ _) ?_;simp only[↓C2,HE,HB,simprocAttr]
 all_goals exact Y3
def DP(l:List Mt)(p:Bs):List Mt:=l.take (BE l p).toNat++l.drop ((BE l p).toNat+1)
def kN:List D->Option D:=λds=>(PD ds).or (aGX ds)
def aRp:Kq kN 190:=aUj (aVf aMp) aRo
def aHF{a b:List Mt}(h:a.length+b.length<=1000):kN [.slice false [] [.slice false [] (Az a),.slice false [] (Az b)]]=some (.slice (decide (a++b=[])) [] (Az (a++b))):=by
 by_cases c:a++b=[]
 ·obtain⟨rfl,rfl⟩:=List.append_eq_nil_iff.1 c;unfold kN;rw[show Az []=[]from rfl,aGW (t:=[])];rfl
 ·grind [PD,Az,FD,AX,sH,kN]
def aKt:=Aq [(187,Ac aHI),(190,Ac kN)]
def aA0:=RF aKt aEw [.cell (some 1) 4,.t 5] 25
def aWC:Kq aA0 212:=An (Aj func212) (Aa aCz (Aa aRp Ad))
def aLn(nl:Bool)(l:List Mt)(p:Bs)(hl:l.length<=1000)(k:BE l p<0):aA0 [.agg [.slice nl [] (Az l)],.str p]=some (.tup [.agg [.slice nl [] (Az l)],.int .i64 14]):=by
 refine Am (Qa rfl) ?_;unfold aEw;have z:=Rv (nl:=nl) (t:=[]) (l:=l) (p:=p) O;simp only[HG,↓C2,HB,simprocAttr,Ae aKt 187,z,eq_true k]
 all_goals exact Y2
def aGp(nl:Bool)(l:List Mt)(p:Bs)(hl:l.length<=1000)(w:nl=true->l=[])(k:¬BE l p<0)(hi:(BE l p).toNat<l.length):aA0 [.agg [.slice nl [] (Az l)],.str p]=some (.tup [.agg [.slice (decide (DP l p=[])) [] (Az (DP l p))],.int .i64 0]):=by
 refine Am (Qa rfl) ?_;unfold aEw;have z:=Rv (nl:=nl) (t:=[]) (l:=l) (p:=p) O;have r:nl=false:=by
  grind
 subst r;unfold DP;generalize BE l p=q at *;have d:(0:Int)<=q:=O
 have m:((q.toNat:Nat):Int)=q:=QW d;have u:IntKind.i64.wrap (q+1)=q+1:=H9 O O;have n:(q+1).toNat=q.toNat+1:=O
 have c:=aHF (a:=l.take q.toNat) (b:=l.drop (q.toNat+1)) YN;have o:aF (Az l) 3=3:=XB
 have x:q.toNat<=l.length:=O
 have v:q.toNat+1<=l.length:=O
 have f:(q<=(l.length:Int))=True:=eq_true O;have e:(q+1<=(l.length:Int))=True:=eq_true O;have y:(0:Int)<=q+1:=O
 have s:ZA q.toNat (Az l)=Az (l.take q.toNat):=(ZO ..).symm;have i:List.drop (q.toNat+1) (Az l)=Az (l.drop (q.toNat+1)):=(List.map_drop ..).symm;have j:ZA (l.length-(q.toNat+1)) (Az (l.drop (q.toNat+1)))=Az (l.drop (q.toNat+1)):=QJ (by rw[AX,List.length_drop];omega);simp only[HG,↓C2,HB,simprocAttr,Ae aKt 187,z,eq_false k,u,AX,d,n,o,y,f,e,Q2,s,i,j,Qe,Ae aKt 190,c];refine aB (λp g=>Xm) ?_;simp only[HG,↓C2,HB,simprocAttr]
 all_goals exact Y2
def IP(a:Ak):(Ia a)[0]?=some (.int .u8 a.op):=rfl
def UY(a:Ak):(Ia a)[2]?=some (.str a.pa):=rfl
def uW(a:Ak):(Ia a)[3]?=some (.str a.ot):=rfl
def aFO(a:Ak):(Ia a)[10]?=some (.str a.key):=rfl
def IH(v:Vw):(It v)[0]?=some (.bool v.se):=rfl
def TL(v:Vw):(It v)[2]?=some (.str v.key):=rfl
def qO(v:Vw):(It v)[3]?=some (.slice v.nlm [] (Az v.ms)):=rfl
def aCf{m:HF}{v:Vw}{a:Ak}:Ag ((m.put [0] 0 (It v)).put [1] 0 (Ia a)) [0] 0 5=some (It v):=by
 grind [AG,AB,CG]
def dU{m:HF}{a:Ak}:Ag (m.put [1] 0 (Ia a)) [1] 0 11=some (Ia a):=AB (AV a)
def aQt{m:HF}{x:List D}{n:Nat}:Ag (m.put [14] 0 x) [0] 0 n=Ag m [0] 0 n:=AG V
open Classical in
def aLX{nl:Bool}{l:List Mt}{p:Bs}(hl:l.length<=1000000):aHC [.agg [.slice nl [] (Az l)],.str p]=some (.tup (if BE l p<0 then [Ml ([],0,false),.int .i64 14]else [Ml (BS l (BE l p).toNat),.int .i64 0])):=by
 have h:Az l=Az (DI (Az l))∧(Az l).length<=1000000:=XS
 show(if _ then _ else _)=_;rw[if_pos h,BW]
open Classical in
def aLW{v:Vw}{p:Bs}(hl:v.ms.length<=1000000):aHB [IB v,.str p]=some (.bool (decide (A5 v.ms p≠-1))):=by
 have h:Az v.ms=Az (DI (Az v.ms))∧(Az v.ms).length<=1000000:=XS
 show(if _ then _ else _)=_;rw[if_pos h,BW]
def Hk(v:Vw)(a:Ak):Bool:=decide (a.op<=8)||(((decide (a.op=17)&&decide (0<=BE v.ms a.pa))||decide (A5 v.ms a.pa≠-1))&&(decide (a.op≠18)||decide (A5 v.ms a.ot≠-1)))
def F70:List D->Option D:=FX MB (λp=>SU p.1) (λp=> .bool (Hk p.1 p.2))
def aTk{v:Vw}{a:Ak}(h:SU v):F70 [IB v,Ic a]=some (.bool (Hk v a)):=Ca (mk:=MB) (a:=(v,a)) R7 h
def aYA:Kq F70 209:=by
 obtain⟨S,s,hl⟩:=By (Aa aMs (Aa aU4 (Aa aU3 Ad)));have c:=hl 262 _ rfl;have i:=hl 265 _ rfl;have m:=hl 266 _ rfl;clear hl;refine C8 s (Aj func209:Fn Qc 209 44 aWX [.t 4]) (λ_=>by simp[MB]) (λp r=>?_);obtain⟨v,a⟩:=p;simp only at r;have wa:=r.ml;have f:aHD [.int .u8 a.op]=some (.bool (decide (a.op<=8))):=rfl;have b:=aLX (nl:=v.nlm) (l:=v.ms) (p:=a.pa) O;have k:∀q,aHB [.agg (It v),.str q]=some (.bool (decide (A5 v.ms q≠-1))):=λq=>aLW O
 have d:=k a.pa;have j:=k a.ot;unfold aWX MB IB Ic Hk;simp only;by_cases w:a.op<=8
 ·rw[decide_eq_true w]at f;simp only[↓C2,HE,simprocAttr,IP,IH,BG,CG,AQ,AV,Qj,ne_eq,Zq,Ah,Qf,QK,Qj,and_self,Qk,Ql,w,Ab c,f]
 ·rw[decide_eq_false w]at f;generalize decide (A5 v.ms a.pa≠-1)=x at d ⊢;generalize decide (A5 v.ms a.ot≠-1)=b2 at j ⊢;generalize BE v.ms a.pa=fi at b ⊢;clear k;by_cases u:a.op=17
  ·have h:(a.op=17)=True:=eq_true u;have g:(a.op=18)=False:=eq_false O;clear u;by_cases hf:fi<0
   ·have n:¬0<=fi:=by omega
    rw[if_pos hf]at b;cases x<;>simp only[↓C2,H1,simprocAttr,IP,UY,uW,IH,TL,qO,Nf,aQt,AB,aCf,I_,I0,BG,CG,AQ,AV,ne_eq,Zq,ZD,Zr,ZN,Ah,QE,Qk,QA,Ql,w,n,h,g,Ab c,f,Ab i,b,Ab m,d,Ml]
   ·have n:0<=fi:=by omega
    rw[if_neg hf]at b;generalize BS v.ms fi.toNat=z at b;simp only[↓C2,H1,simprocAttr,IP,UY,uW,IH,TL,qO,Nf,AB,BG,CG,AQ,AV,ne_eq,Zq,Zr,Ah,QE,Qk,QA,Ql,w,n,h,g,Ab c,f,Ab i,b,Ml]
  ·have h:(a.op=17)=False:=eq_false u;obtain⟨z,e,y⟩:∃(z:Mt)(e:Int),aHC [.agg [.slice v.nlm [] (Az v.ms)],.str a.pa]=some (.tup [Ml z,.int .i64 e]):=by
    grind
   clear b;by_cases o:a.op=18
   ·have g:(a.op=18)=True:=eq_true o;clear o u;cases x<;>cases b2<;>simp only[↓C2,H1,simprocAttr,IP,UY,uW,IH,TL,qO,Nf,aQt,AB,aCf,I_,I0,BG,CG,AQ,AV,ne_eq,Zx,ZD,Zr,ZN,Ah,QE,Qk,QA,and_false,Ql,w,h,g,Ab c,f,Ab i,y,Ab m,d,j,Ml]
   ·have g:(a.op=18)=False:=eq_false o;clear o u;cases x<;>simp only[↓C2,H1,simprocAttr,IP,UY,uW,IH,TL,qO,Nf,aQt,AB,aCf,I_,I0,BG,CG,AQ,AV,ne_eq,Zx,Zq,ZD,Zr,Ah,QE,Qk,QA,Ql,w,h,g,Ab c,f,Ab i,y,Ab m,d,Ml]
def FJ(v:Vw)(a:Ak):Int:=if Cl a≠0 then Cl a else if a.op=1 then 0 else if a.op=2 then(if v.se=false then 9 else if a.key≠v.key then 11 else 0)else if v.se=true then 12 else if R2 v a=false then 13 else if Hk v a=false then 14 else 0
def F25:List D->Option D:=FX MB (λp=>SU p.1∧Iq p.2) (λp=> .int .i64 (FJ p.1 p.2))
def bM{v:Vw}{a:Ak}(h:SU v)(y:Iq a):F25 [IB v,Ic a]=some (.int .i64 (FJ v a)):=Ca (mk:=MB) (a:=(v,a)) R7 ⟨h,y⟩
def aYF:Kq F25 143:=by
 obtain⟨S,hS,hl⟩:=By (Aa aYC (Aa aYB (Aa aYA Ad)));have c:=hl 207 _ rfl;have h:=hl 208 _ rfl;have i:=hl 209 _ rfl;clear hl;refine C8 hS (Aj func143:Fn Qc 143 52 aXd [.t 4]) (λ_=>by simp[MB]) (λp s=>?_);obtain⟨v,a⟩:=p;obtain⟨r,x⟩:=s;simp only at r x;have b:F68 [.agg (Ia a)]=some (.int .i64 (Cl a)):=aTm x;have d:F69 [.agg (It v),.agg (Ia a)]=some (.bool (R2 v a)):=aTl r;have g:F70 [.agg (It v),.agg (Ia a)]=some (.bool (Hk v a)):=aTk r;unfold aXd MB IB Ic FJ;simp only;generalize Cl a=e at b ⊢;generalize R2 v a=q at d ⊢;generalize Hk v a=o at g ⊢;by_cases j:e=0
 ·subst j;by_cases u:a.op=1
  ·have z:(a.op=1)=True:=eq_true u;clear u;simp only[↓C2,HE,simprocAttr,IP,IH,dU,BG,CG,B_,B0,AQ,AV,Qj,ne_eq,Ah,Qf,QK,Qj,and_self,Qk,Ql,z,Ab c,b]
  ·have z:(a.op=1)=False:=eq_false u;by_cases y:a.op=2
   ·have k:(a.op=2)=True:=eq_true y;clear u y;cases hse:v.se with
    |false=>
     simp only[↓C2,HE,simprocAttr,IP,IH,dU,BG,CG,B_,B0,AQ,AV,Qj,ne_eq,Ah,Qf,QK,Qj,and_self,Qk,QA,Ql,z,k,hse,Ab c,b]
    |true=>
     by_cases m:a.key=v.key
     ·have f:(a.key=v.key)=True:=eq_true m;have w:(a.key==v.key)=true:=by rw[m];simp
      clear m;simp only[↓C2,HE,simprocAttr,IP,UY,aFO,IH,TL,dU,BG,CG,B_,B0,AQ,AV,Qj,ne_eq,Ah,Qf,QK,Qj,and_self,Qk,QA,and_false,Ql,z,k,hse,f,Ab c,b]
     ·have f:(a.key=v.key)=False:=eq_false m;have w:(a.key==v.key)=false:=by simpa using m
      clear m;simp only[↓C2,HE,simprocAttr,IP,UY,aFO,IH,TL,dU,BG,CG,B_,B0,AQ,AV,Qj,ne_eq,Ah,Qf,QK,Qj,and_self,Qk,QA,and_false,Ql,z,k,hse,f,Ab c,b]
   ·have k:(a.op=2)=False:=eq_false y;clear u y;cases hse:v.se with
    |true=>
     simp only[↓C2,HE,simprocAttr,IP,IH,dU,BG,CG,B_,B0,AQ,AV,Qj,ne_eq,Ah,Qf,QK,Qj,and_self,Qk,QA,Ql,z,k,hse,Ab c,b]
    |false=>
     cases q with
     |false=>
      simp only[↓C2,HE,simprocAttr,IP,IH,dU,aCf,I_,I0,BG,CG,B_,B0,AQ,AV,Qj,ne_eq,Ah,Qf,QK,Qj,and_self,Qk,QA,Ql,z,k,hse,Ab c,b,Ab h,d]
     |true=>
      cases o<;>simp only[↓C2,HE,simprocAttr,IP,IH,dU,aCf,I_,I0,BG,CG,B_,B0,AQ,AV,Qj,ne_eq,Ah,Qf,QK,Qj,and_self,Qk,QA,Ql,z,k,hse,Ab c,b,Ab h,d,Ab i,g]
 ·simp only[↓C2,HE,simprocAttr,dU,BG,B_,B0,AQ,Qj,ne_eq,Qj,and_self,j,Ab c,b]
def aJC(k:Bs)(nl:Bool):Vw:=⟨false,1,k,true,[],nl,[Bi]⟩
def F23:List D->Option D
 |[.str k]=>some (IB (aJC k false))
 |_=>none
def aYG:Kq F23 78:=by
 obtain⟨S,g,hl⟩:=By (Aa aUr Ad);have a:=hl 80 _ rfl;clear hl;refine AO (S:=S) g (Aj func78:Fn Qc 78 6 aXe [.cell (some 5) 2]) (λds r h=>?_) (λds r h=>?_)
 ·unfold F23 at h;split at h
  ·simp
  ·cases h
 ·unfold F23 at h;split at h
  ·simp only[Qt]at h;subst h;have f:F48 []=some (.agg [.slice false [] (Ar [Bi])]):=rfl;unfold aXe;simp only[↓C2,H1,simprocAttr,Cj,F_,QC,QV,Q6,Ab a,f,Ah,Av,Aw,Zm,Ze,Zf,QE,Q2,List.drop_succ_cons,BC,AW]
   all_goals exact Y3
  ·cases h
def aFS(s:Bool×List Mt)(m:Mt):Bool×List Mt:=match (pR s.2 m).1 with
 |none=>s
 |some l=>(false,l)
open Classical in
def aHo{nl0 nl:Bool}{l:List Tk}{n p:Bs}{rs:List Rl}(hl:l.length<=90000)(g:∀k∈l,I6 k.2.2.2)(w:nl=true->rs=[])(i:I6 rs)(u:n.length<=1000000)(y:p.length<=1000000):
  F50 [.agg [.slice nl0 [] (Ar l)],.agg [.str n,.str p,.slice nl [] (As rs)]]=some (.tup [RN nl0 l (Eb l (n,p,nl,rs)).1,.int .i64 (Eb l (n,p,nl,rs)).2]):=by
 have h:(FU (Ar l)∧(Ar l).length<=90000∧∀k∈DG (Ar l),I6 k.2.2.2)∧Pg nl (As rs)∧I6 (Bv (As rs))∧n.length<=1000000∧p.length<=1000000:=
  ⟨⟨Fj O,by rw[Bp];exact hl,by rw[BU];exact g⟩,Nb i.1 w,by rw[A3];exact i,u,y⟩
 show(if _ then _ else _)=_;rw[if_pos h,BU,A3]
def z5:List D:=[.bool false,.int .i64 0,.str [],.slice true [] [],.slice true [] []]
open Classical in
def aL3{nl:Bool}{l:List Tk}(hl:l.length<=1000000):qH [.agg [.slice nl [] (Ar l)]]=some (.slice (decide (l.length=0)) [] (l.map λk=> .str k.1)):=by
 have h:FU (Ar l):=Fj hl;show(if _ then _ else _)=_;rw[if_pos h,BU]
theorem FF:∀a:Bs,Op.bytesLess a a=false
 |[]=>rfl
 |x::r=>by simp[Op.bytesLess,FF r]
def OX:∀{a b:Bs},a≠b->Op.bytesLess a b=!Op.bytesLess b a
 |[],[],h=>absurd rfl h
 |[],y::s,_=>rfl
 |x::r,[],_=>rfl
 |x::r,y::s,h=>by
  simp only[Op.bytesLess];by_cases c:x=y
  ·simp_all [OX]
  ·grind
def Lx:∀{a b c:Bs},Op.bytesLess a b=true->Op.bytesLess b c=true->Op.bytesLess a c=true
 |a,b,[],h1,h2=>by simp[Op.bytesLess]at h2
 |a,[],z::t,h1,h2=>by cases a<;>simp[Op.bytesLess]at h1
 |[],y::s,z::t,h1,h2=>rfl
 |x::r,y::s,z::t,h1,h2=>by
  simp only[Op.bytesLess,Zt,QB,decide_eq_true_eq,beq_iff_eq]at h1 h2 ⊢;rcases h1 with h1|⟨rfl,h1⟩
  ·grind
  ·rcases h2 with h2|⟨rfl,h2⟩
   ·left;exact h2
   ·right;exact⟨rfl,Lx h1 h2⟩
def DE(l:List Mt):Prop:=∀i j,i<j->j<l.length->Op.bytesLess (l.getD i m0t).1 (l.getD j m0t).1=true
def Ro{a b:Bs}:decide (C0 a b<0)=Op.bytesLess a b:=by
 grind [C0]
def aDv{l:List Mt}{m:Mt}(w:∀i,i<l.length->(l.getD i m0t).1≠m.1):∀j,j<=l.length->kR mS m0t l m j=bV l m.1 j
 |0,_=>rfl
 |j+1,hj=>by
  have ih:=aDv w j O;have v:=OX (w j O);have d:mS m (l.getD j m0t)=Op.bytesLess m.1 (l.getD j m0t).1:=Ro;unfold kR bV;rw[d,show BS l j=l.getD j m0t from rfl,v];cases Op.bytesLess m.1 (l.getD j m0t).1
  ·simp
  ·simpa using ih
theorem UM{l:List Mt}{p:Bs}(h:¬0<=BE l p):∀i,i<l.length->(l.getD i m0t).1≠p:=by
 have u:=Hs (l.map λm=>decide (m.1=p));have y:decide (0<=Bc (l.map λm=>decide (m.1=p)))=false:=decide_eq_false h;rw[y]at u;intro i hi e;have o:=Zj.1 u.symm (decide ((l.getD i m0t).1=p)) (Qp.2 ⟨l[i],QL hi,by simp[Qz,hi]⟩);exact o (decide_eq_true e)
theorem L5{l:List Mt}{m:Mt}(h:DE l):FH l m=pR l m:=by
 unfold FH pR;split
 ·rfl
 split
 ·rfl
 rename_i k;split
 ·rfl
 split
 ·rfl
 have j:∀i,i+1<l.length->mS (l.getD (i+1) m0t) (l.getD i m0t)=false:=λi hi=>by
  have u:=h i (i+1) O hi;unfold mS;rw[Ro];have p:(l.getD (i+1) m0t).1≠(l.getD i m0t).1:=λe=>by rw[e,FF]at u;cases u
  rw[OX p,u];rfl
 have hi:=UA mS m0t l m j l.length 1 (Qe _) O;rw[hi,aDv (UM k) l.length (Qe _)];split
 ·simp_all
 ·rfl
def aDw{l:List Mt}{p:Bs}:∀j,bV l p j=0∨Op.bytesLess (l.getD (bV l p j-1) m0t).1 p=true
 |0=> .inl rfl
 |j+1=>by
  unfold bV;split
  ·rename_i h;right;exact h
  ·exact aDw j
def sT{l:List Mt}{p:Bs}:∀j i,bV l p j<=i->i<j->Op.bytesLess (l.getD i m0t).1 p=false
 |0,i,_,h=>O
 |j+1,i,h1,h2=>by
  unfold bV at h1;split at h1
  ·omega
  ·rename_i h;by_cases e:i=j
   ·subst e;exact Bool.eq_false_iff.2 h
   ·exact sT j i h1 O
def Sd{α:Type}{l:List α}{m d:α}{k i:Nat}(g:k<=l.length):(l.take k++m::l.drop k).getD i d=if i<k then l.getD i d else if i=k then m else l.getD (i-1) d:=by
 grind
theorem aBM{l:List Mt}{m:Mt}(h:DE l)(w:∀i,i<l.length->(l.getD i m0t).1≠m.1):DE (l.take (bV l m.1 l.length)++m::l.drop (bV l m.1 l.length)):=by
 have g:=aDu l m.1 l.length;have h1:=aDw (l:=l) (p:=m.1) l.length;have y:=sT (l:=l) (p:=m.1) l.length;generalize bV l m.1 l.length=k at g h1 y;have lo:∀i,i<k->Op.bytesLess (l.getD i m0t).1 m.1=true:=λi hi=>by
  rcases h1 with h1|h1
  ·omega
  ·by_cases e:i=k-1
   ·rw[e];exact h1
   ·exact Lx (h i (k-1) O O) h1
 have hi:∀i,k<=i->i<l.length->Op.bytesLess m.1 (l.getD i m0t).1=true:=λi o a=>by
  rw[OX (λe=>w i a e.symm),y i o a];rfl
 intro i j s z;have r:(l.take k++m::l.drop k).length=l.length+1:=by
  grind
 rw[r]at z;rw[Sd g,Sd g];by_cases a1:i<k
 ·rw[if_pos a1];by_cases u:j<k
  ·rw[if_pos u];exact h i j s O
  ·rw[if_neg u];by_cases v:j=k
   ·simp_all
   ·rw[if_neg v];exact h i (j-1) O O
 ·rw[if_neg a1];have u:¬j<k:=by omega
  have v:¬j=k:=O
  rw[if_neg u,if_neg v];by_cases f:i=k
  ·grind
  ·rw[if_neg f];exact h (i-1) (j-1) O O
def pQ{s:Bool×List Mt}{m:Mt}(h:DE s.2):DE (aFS s m).2:=by
 unfold aFS pR;by_cases u:Db m.1 m.2.1≠0
 ·rw[if_pos u];exact h
 ·rw[if_neg u];by_cases y:0<=BE s.2 m.1
  ·rw[if_pos y];exact h
  ·grind [GO,aBM,UM]
def Gg(l:List Tk):Prop:=∀i j,i<j->j<l.length->Op.bytesLess (Bk l i).1 (Bk l j).1=true
def AtT(l:List Tk)(s:Bs)(r:Nat):Prop:=r<=l.length∧(∀i,i<r->Op.bytesLess (Bk l i).1 s=true)∧∀i,r<=i->i<l.length->Op.bytesLess (Bk l i).1 s=false
def AtT.uniq{l:List Tk}{s:Bs}{r q:Nat}(h:AtT l s r)(k:AtT l s q):r=q:=by
 rcases ZE r q with e|e|e
 ·have u:=h.2.2 r (Qe _) (by have:=k.1;omega);rw[k.2.1 r e]at u;cases u
 ·exact e
 ·have u:=k.2.2 q (Qe _) (by have:=h.1;omega);rw[h.2.1 q e]at u;cases u
theorem Uu{l:List Tk}(h:Gg l){s:Bs}{i j:Nat}(y:i<=j)(z:j<l.length)(hl:Op.bytesLess (Bk l j).1 s=true):Op.bytesLess (Bk l i).1 s=true:=by
 by_cases e:i=j
 ·rw[e];exact hl
 ·exact Lx (h i j O z) hl
def pG{l:List Tk}(h:Gg l){s:Bs}:∀(f lo hi:Nat),hi-lo<=f->lo<=hi->hi<=l.length->(∀i,i<lo->Op.bytesLess (Bk l i).1 s=true)->(∀i,hi<=i->i<l.length->Op.bytesLess (Bk l i).1 s=false)->AtT l s (bsR l s f lo hi)
 |0,lo,hi,hf,h1,h2,h3,h4=>by
  have:lo=hi:=O
  subst this;exact⟨h2,h3,h4⟩
 |f+1,lo,hi,hf,h1,h2,h3,h4=>by
  unfold bsR;split
  ·rename_i k;have n:(lo+hi) / 2<hi:=by omega
   have q:lo<=(lo+hi) / 2:=O
   split
   ·rename_i d;have a:Op.bytesLess (Bk l ((lo+hi) / 2)).1 s=true:=by rw[←Ro];exact decide_eq_true d
    exact pG h f _ hi O O h2 (λi z=>Uu h (show i<=(lo+hi) / 2 by omega) O a) h4
   ·rename_i d;have a:Op.bytesLess (Bk l ((lo+hi) / 2)).1 s=false:=by rw[←Ro];exact decide_eq_false d
    refine pG h f lo _ O q O h3 (λi p v=>?_);by_cases e:Op.bytesLess (Bk l i).1 s=true
    ·grind [Uu]
    ·simpa using e
  ·have:lo=hi:=by omega
   subst this;exact⟨h2,h3,h4⟩
def aFD{l:List Tk}(h:Gg l)(s:Bs):AtT l s (IZ l s):=pG h l.length 0 l.length O O (Qe _) (λi hi=>absurd hi (ZJ _)) (λi u y=>O)
theorem UU{a b:Bs}:decide (C0 a b=0)=decide (a=b):=by
 grind [C0,FF]
def NB{l:List Tk}(h:Gg l){j:Nat}(z:j<l.length):IZ l (Bk l j).1=j∧AY l (Bk l j).1=true:=by
 have e:IZ l (Bk l j).1=j:=(aFD h _).uniq ⟨O,λi hi=>h i j hi z,λi u y=>by
  by_cases e:i=j
  ·rw[e];exact FF _
  ·have o:=h j i O y;have p:(Bk l i).1≠(Bk l j).1:=λe=>by rw[e,FF]at o;cases o
   rw[OX p,o];rfl⟩
 refine⟨e,?_⟩;unfold AY;rw[e,UU];simp[z]
def lI(k:Tk):Bs×Bs×List Rl:=(k.1,k.2.1,k.2.2.2)
def Mo(L M:List Tk):Prop:=L.map lI=M.map lI
def Mo.len{L M:List Tk}(h:Mo L M):L.length=M.length:=YU
def Mo.at{L M:List Tk}(h:Mo L M)(j:Nat):(Bk L j).1=(Bk M j).1∧(Bk L j).2.1=(Bk M j).2.1∧(Bk L j).2.2.2=(Bk M j).2.2.2:=by
 have u:(L.map lI)[j]?=(M.map lI)[j]?:=by rw[h]
 rw[Q7,Q7]at u;unfold Bk;simp only[Qz];cases hL:L[j]?<;>cases hM:M[j]?<;>rw[hL,hM]at u<;>simp[lI]at u<;>simp[u]
def Mo.sort{L M:List Tk}(h:Mo L M)(k:Gg L):Gg M:=λi j y z=>by
 rw[←(h.at i).1,←(h.at j).1];exact k i j y (by rw[h.len];exact z)
def Mo.mid{L M:List Tk}(h:Mo L M){k z:Tk}(g:lI k=lI z)(j:Nat):Mo (L.take j++k::L.drop j) (M.take j++z::M.drop j):=by
 simp_all [Mo]
def T_{l:List Tk}{k:Tk}(h:Gg l)(b:AY l k.1=false):Gg (BT l k):=by
 have o:=aFD h k.1;have t:∀i,i<l.length->(Bk l i).1≠k.1:=λi hi e=>by
  have:=(NB h hi).2;rw[e,b]at this;cases this
 unfold BT;generalize IZ l k.1=q at o;obtain⟨d,lo,hi⟩:=o;have z:∀i,q<=i->i<l.length->Op.bytesLess k.1 (Bk l i).1=true:=λi u y=>by
  rw[OX (λe=>t i y e.symm),hi i u y];rfl
 intro i j s p;have r:(l.take q++k::l.drop q).length=l.length+1:=by
  grind
 rw[r]at p;have c:∀i,Bk (l.take q++k::l.drop q) i=if i<q then Bk l i else if i=q then k else Bk l (i-1):=λi=>Sd d
 rw[c,c];by_cases a1:i<q
 ·rw[if_pos a1];by_cases x:j<q
  ·rw[if_pos x];exact h i j s O
  ·rw[if_neg x];by_cases v:j=q
   ·simp_all
   ·rw[if_neg v];exact h i (j-1) O O
 ·rw[if_neg a1];have x:¬j<q:=by omega
  have v:¬j=q:=O
  rw[if_neg x,if_neg v];by_cases f:i=q
  ·grind
  ·rw[if_neg f];exact h (i-1) (j-1) O O
def S9(l:List Mt):Prop:=l.length<=1000∧∀m∈l,m.1.length<=1000
def aB3(s:Bs):Bs:=bX 2 s.length++s
def sI(m:Mt):Bs:=aB3 m.1++[UInt8.ofNat (m.2.1 % 256).toNat,if m.2.2 then 1 else 0]
def BL(l:List Mt):Bs:=l.flatMap sI
def RS(s:Bs):(aB3 s).length=2+s.length:=by simp[aB3,Hw]
def VV(m:Mt):(sI m).length=4+m.1.length:=by simp[sI,RS];omega
def Og{l:List Mt}{j:Nat}(h:j<l.length):BL (l.take (j+1))=BL (l.take j)++sI (BS l j):=by
 have e:BS l j=l[j]:=by simp[BS,Qd h]
 rw[e,BL,BL,←List.take_append_getElem h,List.flatMap_append];simp
def eO{l:List Mt}{j:Nat}(h:j<l.length):BS l j∈l:=by simp[BS,Qd h]
def Vm{l:List Mt}(h:S9 l):∀j,j<=l.length->(BL (l.take j)).length<=1004*j
 |0,_=>by simp[BL]
 |j+1,hj=>by
  have u:=Vm h j O;have y:=h.2 _ (eO (show j<l.length by omega));rw[Og O,Qh,VV];omega
def Rj:=y1 f86 3 [] []
def aO2:=y0 f86 [] [(3,Rj)]
def aOj:=y0 f142 [] []
def P4:=y1 f201 2 [] []
def aND:=y0 f201 [] [(2,P4)]
def TH:List D->Option (List D×List Nat)
 |[.int .i64 s,.int .u64 n]=>if 1<=s∧s<=8∧0<=n then some (AF (bX s.toNat n),[13*s.toNat])else none
 |_=>none
set_option maxHeartbeats 1000000 in
def aJh{S:HD}{fr:Id}{m0:HF}{nl0:Bool}{t0:Id}{emp:Bool}{n:Int}{sz:Nat}{Q:Ex->St->Prop}(e:sz<=8)(z:0<=n)(j:∀i o,fr<:+i->m0 i o=none)(ya:B8 m0 5 nl0 t0 emp=true):
  ∀(k:Nat)(v:St)(nl:Bool)(t:Id)(xs:List D) g,k<=sz->xs.length+k<=200000000->(nl=true->xs=[])->v.c=5+13*(sz-k)->Gs 5 fr m0 nl0 t0 v.m v.c nl t->
   v.s 7= .int .i64 (8*(k:Int)-8)->v.s 0= .slice nl t xs->v.s 2= .int .u64 n->
   (∀q nl' t',q.s 0= .slice nl' t' (xs++AF (bX k n))->(k=0->nl'=nl∧t'=t∧q.m=v.m∧v.c<=q.c)->(0<k->nl'=false∧t'=[13*sz]++fr∧Gd 5 fr m0 nl0 t0 q.m q.c t')->Q (.exit 0) q)->A9 S fr P4 Q v g:=by
 intro k;induction k with
 |zero=>
  intro v nl t xs g _ _ _ _ hG h7 h0 y p;refine Af P4.eq_1 ?_;have x:((0:Int)<=8*((0:Nat):Int)-8)=False:=eq_false V;simp only[↓C2,HH,HZ,simprocAttr,h7,x];exact p _ nl t (by simp only[↓C2,reduceIte,Qw,h0,bX,AF,Q6,Zu]) (λ_=>⟨rfl,rfl,rfl,Xa⟩) (λh=>absurd h O)
 |succ k ih=>
  intro v nl t xs g u w na hc hG h7 h0 y p;refine Af P4.eq_1 ?_;have x:((0:Int)<=8*((k+1:Nat):Int)-8)=True:=eq_true O;have f:((0:Int)<=8*((k+1:Nat):Int)-8):=O
  have r:min (8*((k+1:Nat):Int)-8).toNat IntKind.u64.bits=8*k:=by
   have:IntKind.u64.bits=64:=rfl;omega
  have hw:IntKind.i64.wrap (8*((k+1:Nat):Int)-8-8)=8*(k:Int)-8:=YR
  simp only[↓C2,HE,simprocAttr,Qb,Qg,h7,h0,y,x,r,Vh,and_false];refine aB ⟨O,rfl,Gs.grow (hG.put (l:=[]) (k:=v.c+2+5) O) j ya⟩ ?_;rw[BF na];simp only[↓C2,HE,simprocAttr,h7,hw];have hd:Gd 5 fr m0 nl0 t0 (HN.app (v.m.put ((v.c+2+5)::fr) 0 [D.tok 6]) (Bm 5 ((v.c+2+6)::fr) (.slice nl t xs))) (v.c+2+8+3) ((v.c+2+6)::fr):=
   Gs.app (l:=[]) (hG.put (l:=[]) (k:=v.c+2+5) O) O O
  refine ih _ false ((v.c+2+6)::fr) (xs++[.int .u8 ((((n.fdiv (2 ^ (8*k))) % 256).toNat:Nat):Int)]) _ O Xb U Xa hd.gs rfl rfl y (λq nl' t' e1 e2 e3=>?_);refine p q nl' t' ?_ (λh=>absurd h O) (λ_=>?_)
  ·rw[e1,Q0];simp only[bX,AF,QV];rw[toNat_ofNat O];rfl
  ·by_cases va:k=0
   ·obtain⟨a,b,c,d⟩:=e2 va;refine⟨a,?_,?_⟩
    ·grind
    ·rw[b,c];exact hd.more d
   ·exact e3 O
def aMi:(gQ 5 TH).ok Qc 201:=by
 refine LW (S:=λ_=>none) Ba (Aj func201:Fn Qc 201 23 aND [.t 6]) aRW (λds m fr d u h j=>?_);obtain⟨nl,t,xs,r,ys,l,rfl,x,p,y,rfl,rfl⟩:=aRX h;unfold TH at y;split at y
 ·rename_i s n;split at y
  ·rename_i hc;obtain⟨b,i,a⟩:=hc;simp only[Qt,QU]at y;obtain⟨rfl,rfl⟩:=y;refine⟨U,?_⟩;clear h;have k:((s.toNat:Nat):Int)=s:=QW O;have w1:IntKind.i64.wrap (s-1)=s-1:=IntWalk.i64_in _ ⟨O,O⟩;have w:IntKind.i64.wrap (8*(s-1))=8*(s.toNat:Int)-8:=by rw[IntWalk.i64_in _ ⟨O,O⟩];omega
   unfold aND;simp only[↓C2,HH,simprocAttr,w1,w];refine aJh (sz:=s.toNat) O a j x s.toNat _ nl t xs _ O O (λh=>?_) Xa Gs.start rfl rfl rfl (λv nl' e c _ o=>?_)
   ·grind [B8]
   ·obtain⟨rfl,rfl,z⟩:=o O;simp only[↓C2,HH,HZ,simprocAttr,c];exact z.fin j x
  ·cases y
 ·cases y
def aLL:List D->Option (List D×List Nat)
 |[.str s]=>if s.length<=65535 then some (AF (bX 2 s.length++s),[17])else none
 |_=>none
set_option maxHeartbeats 1000000 in
def aUP(c:grownQ.ok Qc 206):(cQ 5 aIA aLL).ok Qc 142:=by
 have g:HD.ok Qc (Aq [(206,grownQ),(201,gQ 5 TH)]):=Aa c (Aa (aMi) Ad);have b:Aq [(206,grownQ),(201,gQ 5 TH)] 206=some grownQ:=rfl;have a:Aq [(206,grownQ),(201,gQ 5 TH)] 201=some (gQ 5 TH):=rfl;generalize Aq [(206,grownQ),(201,gQ 5 TH)]=S at g b a;refine LW (S:=S) g (Aj func142:Fn Qc 142 22 aOj [.t 4,.t 5]) (λds m m' fr _=>rfl) (λds m fr d u h j=>?_);obtain⟨nl,t,xs,r,ys,l,rfl,x,p,y,rfl,rfl⟩:=aSm h;unfold aLL at y;split at y
 ·rename_i s;split at y
  ·rename_i hc;simp only[Qt,QU]at y;obtain⟨rfl,rfl⟩:=y;refine⟨U,?_⟩;clear h;have q:((65535:Int)<(s.length:Int))=False:=eq_false O;have w1:IntKind.i64.wrap (2+(s.length:Int))=2+(s.length:Int):=IntWalk.i64_in _ ⟨O,O⟩;have w:IntKind.u64.wrap (s.length:Int)=(s.length:Int):=E4 O O;have f:TH [.int .i64 2,.int .u64 (s.length:Int)]=some (AF (bX 2 s.length),[26]):=by
    show(if(1:Int)<=2∧(2:Int)<=8∧0<=(s.length:Int)then some (AF (bX (2:Int).toNat (s.length:Int)),[13*(2:Int).toNat])else none)=_;rw[if_pos ⟨O,O,O⟩];rfl
   have e:∀m fr,grownQ.ex [.slice nl t xs,.int .i64 (2+(s.length:Int))] m fr=some (.slice false (0::fr) xs,[(0::fr,0,[.tok 6])]):=λm fr=>aDQ O x O
   unfold aOj;simp only[↓C2,HH,HZ,simprocAttr,AH b,AH a,e,q,w1,w];have z:Gd 5 fr m true [] (m.put ([0]++9::fr) 0 [.tok 6]) 10 ([0]++9::fr):=
    ⟨⟨[0],9,rfl,O⟩,by rw[BV,if_pos ⟨rfl,rfl⟩],λi o hi=>VM i o hi⟩
   refine aM0 (.inr ⟨z.tok,U⟩) U p f ?_;have ga:Gd 5 fr m true [] (HN.app (m.put (0::9::fr) 0 [.tok 6]) (Bm 5 ([26]++13::fr) (.slice false (0::9::fr) xs))) 14 ([26]++13::fr):=
    Gs.app (l:=[26]) (k:=13) z.gs O O
   simp only[↓C2,HH,simprocAttr,false_and,CA];refine aB ⟨by simp only[Qh,CA,Hw];omega,?_,.inr ⟨ga.tok,U⟩⟩ ?_
   ·cases s<;>rfl
   simp only[↓C2,HH,simprocAttr];refine⟨by rw[FE,Q0];rfl,?_⟩;exact(Gs.app (c':=18) (l:=[]) (k:=17) ga.gs O O).finc j
  ·cases y
 ·cases y
set_option maxRecDepth 20000 in
def aHX(w:World)(y:Option Addr)(n c k:Nat)(cs:List Value)(hl:cs.length=n)(q:∀v∈cs,v.oneCell'=true)(g:n+k<=140737488355328)
  (x:0<n->∃ad,y=some ad∧∀(j:Nat) v,cs[j]?=some v->w.cell? (ad.add j)=some v):
  Calls Qc 206 #[.slice y n c,.int .i64 (k:Int)] w λe w'=>e= .returned (.slice (some ⟨w.heap.size,0,none⟩) n (n+k))∧w'=(w.alloc (.cells (madeCells #[.int .u8 0] (n+k)) 5)).setRow w.heap.size (cs++(madeCells #[.int .u8 0] (n+k)).toList.drop n).toArray:=by
 have hw:IntKind.i64.wrap ((n:Int)+(k:Int))=(n:Int)+(k:Int):=IntWalk.i64_in _ ⟨O,O⟩;have h:∀u:World,(Instr.makeSlice 108 (.int .i64 (n:Int)) (.int .i64 ((n:Int)+(k:Int)))).run Qc u= .ok (.slice (some ⟨u.heap.size,0,none⟩) n (n+k)) (u.alloc (.cells (madeCells #[.int .u8 0] (n+k)) 5)):=λu=>by
  have m:((n:Int)+(k:Int)).toNat=n+k:=O
  have:=run_make (P:=Qc) u 108 5 Tryz.t5 (.int .u8 0) underlying108 Z Z .i64 .i64 (n:Int) ((n:Int)+(k:Int)) O O (by show((1:Nat):Int)*_<=_;omega) O;simpa[show Tryz.t5.size=1 from rfl,Value.cells,m]using this
 have p:(Builtin.copy_ #[108,108] 3 #[.slice (some ⟨w.heap.size,0,none⟩) n (n+k),.slice y n c]).run Qc (w.alloc (.cells (madeCells #[.int .u8 0] (n+k)) 5))= .ok (goInt n) ((w.alloc (.cells (madeCells #[.int .u8 0] (n+k)) 5)).setRow w.heap.size (cs++(madeCells #[.int .u8 0] (n+k)).toList.drop n).toArray):=by
  have a:(w.alloc (.cells (madeCells #[.int .u8 0] (n+k)) 5)).heap[w.heap.size]?=some (.cells (madeCells #[.int .u8 0] (n+k)) 5 (0,0)):=heap_alloc_new w _;rcases Nat.eq_zero_or_pos n with h0|h0
  ·have o:cs=[]:=Zc O;subst o;have:=run_copy_none (P:=Qc) (w.alloc (.cells (madeCells #[.int .u8 0] (n+k)) 5)) 108 108 3 5 (some ⟨w.heap.size,0,none⟩) y n (n+k) n c underlying108 Z (by rw[h0];rfl);rw[this,h0];simp only[QC,Q2,Array.toArray_toList];rw[setRow_self _ _ _ 5 (0,0) (by rw[h0]at a;exact a)];rfl
  ·obtain⟨ad,rfl,hs⟩:=x h0;have:=run_copy_row (P:=Qc) (w.alloc (.cells (madeCells #[.int .u8 0] (n+k)) 5)) 108 108 3 5 w.heap.size 0 n (n+k) ad n c (madeCells #[.int .u8 0] (n+k)) 5 cs underlying108 Z a (by rw[hl];simp) (λj v r=>by rw[World.cell?_alloc_old _ _ _ (Nat.ne_of_lt (World.block_lt_of_cell? _ _ (hs j v r)))];exact hs j v r) (by simp[madeCells];omega) q;rw[this,hl];simp[]
 go_enter func206,ntmps206
 go_wp2
 go_ret
 exact Y6
def WL(w:World)(a b:Array Value)(e:TypeId):(w.alloc (.cells a e)).setRow w.heap.size b=w.alloc (.cells b e):=by
 have h:∀(F:Obj->Obj),(w.heap.push (.cells a e)).modify w.heap.size F=w.heap.push (F (.cells a e)):=by
  grind
 unfold World.setRow World.alloc;simp only[h]
def aUB:grownQ.ok Qc 206:=by
 refine⟨⟨Tryz.f206,func206,rfl,Z⟩,λds m m' fr _=>rfl,?_⟩;intro B w0 w m g fr ds vs r u hi ia hl da y;simp only[grownQ]at y;split at y
 ·rename_i nl t xs k;split at y
  ·rename_i s;obtain⟨va,f,hk⟩:=s;simp only[Qt,QU]at y;obtain⟨rfl,rfl⟩:=y
   match vs,hl with
   |[v0,v1],_=>
    have la:=da 0 _ v0 rfl rfl;have pa:=(da 1 _ v1 rfl rfl).int_inv;subst pa;have ha:∀d∈xs,d.cells.length=1∧d.calm=true:=by
     intro d o;have:=Q9.1 f d o;unfold Ho at this;split at this
     ·exact Y6
     ·cases this
    obtain⟨sp,c,cs,e0,a,ra,za⟩:∃(sp:Option Addr)(c:Nat)(cs:List Value),v0= .slice sp xs.length c∧cs.length=xs.length∧AZ w g (flat xs) cs∧
      (0<xs.length->∃ad,sp=some ad∧∀(j:Nat) v,cs[j]?=some v->w.cell? (ad.add j)=some v):=by
     cases nl with
     |true=>
      rcases la.slice_inv with ⟨_,rfl,e⟩|⟨h,_⟩
      ·exact⟨none,0,[],e,rfl,AZ.nil w g,λh=>Xd⟩
      ·cases h
     |false=>
      obtain⟨ad,n,c,sz,ws,ev,hn,wa,ka,ta,p,a,_⟩:=la.slice_list;subst hn;refine⟨some ad,c,ws,ev,?_,p,λ_=>⟨ad,rfl,a⟩⟩;rw[ta];cases xs with
      |nil=>simp
      |cons x r=>
       have q:=ka x (Qo ..);rw[(ha x (Qo ..)).1]at q;rw[←q,Nat.mul_one]
    subst e0;have ca:((k.toNat:Nat):Int)=k:=QW va;have hw:=aHX w sp xs.length c k.toNat cs a ra.2.1 O za;rw[ca]at hw;refine hw.mono ?_;rintro e w' ⟨rfl,rfl⟩;rw[WL];have ka:(cs++(madeCells #[Value.int .u8 0] (xs.length+k.toNat)).toList.drop xs.length).toArray.size=(xs.length+k.toNat)*1:=by simp[madeCells,a]
    have ab:∃ti z,Tryz.prog.info? 5=some ti∧ti.size=1∧ti.zero=some z∧z.cells.size=1:=⟨Tryz.t5,.int .u8 0,Z,Z,Z,Z⟩;have sa:=ia (0::fr) (ZG 0 fr);have fa:=hi.newTok sa (e:=5) (n:=xs.length) (c:=xs.length+k.toNat) (sz:=1) (cur:=(cs++(madeCells #[Value.int .u8 0] (xs.length+k.toNat)).toList.drop xs.length).toArray) V ab O Xq ka;have ma:=H5.newTok (w:=w) (t:=0::fr) (n:=xs.length) (c:=xs.length+k.toNat) (sz:=1) (Obj.cells (cs++(madeCells #[Value.int .u8 0] (xs.length+k.toNat)).toList.drop xs.length).toArray 5) hi.gz sa.2.2 rfl;refine⟨_,_,rfl,fa,ma,?_,λi b hn=>C_ b (λh=>hn ((ZG 0 fr).trans h)) _ _ _ _ _⟩;refine aH (sz:=1) (cur:=(cs++(madeCells #[Value.int .u8 0] (xs.length+k.toNat)).toList.drop xs.length).toArray) (T:=5) (fz:=(0,0)) (heap_alloc_new w _) rfl O (λd o=>(ha d o).1) (ra.ext ma) (λj v hv=>?_) Xl (λ_=>Xl) (λd o=>(ha d o).2);rw[List.getElem?_toArray,QP (Qy.1 hv).1];exact hv
  ·cases y
 ·cases y
def aMb{d:D}{n:Bool}{t:Id}{xs ys:List D}(h:d= .slice n t xs)(e:xs=ys):d= .slice n t ys:=e▸h
def aJs{S:HD}(a:S 142=some (cQ 5 aIA aLL)){l:List Mt}{nl:Bool}{Q:Ex->St->Prop}(hl:S9 l)
  (ga:∀v n t,v.s 3= .slice n t (AF (BL l))->Q (.exit 0) v):
  ∀(f j:Nat)(n:Bool)(t:Id)(v:St) g,l.length=j+f->v.s 3= .slice n t (AF (BL (l.take j)))->v.s 8= .slice nl [] (Az l)->v.s 9= .int .i64 (l.length:Int)->v.s 10= .int .i64 (j:Int)->A9 S [] Rj Q v g:=by
 intro f;induction f with
 |zero=>
  intro j n t v g r o h8 h9 e;refine Af Rj.eq_1 ?_;have:¬((j:Int)<l.length):=O
  simp only[↓C2,HH,HZ,reduceIte,QF,h9,e,this];rw[QJ O]at o;exact ga _ n t o
 |succ f ih=>
  intro j n t v g r o h8 h9 e;refine Af Rj.eq_1 ?_;have z:j<l.length:=O
  have d:((j:Int)<l.length):=O
  have w:=nJ (j:=j);have ua:=hl.1;have q:=Vm hl j O;have y:=hl.2 _ (eO z);have u:=wJ (j:=j) O;have i:(Az l)[j]?=some (.agg [.str (BS l j).1,.int .i64 (BS l j).2.1,.bool (BS l j).2.2]):=Np z;have x:=Og z;generalize BS l j=m at i y x;obtain⟨p,k,b⟩:=m;simp only at y i;have hF:aLL [.str p]=some (AF (aB3 p),[17]):=if_pos O;obtain⟨ma,ia,c⟩:=v;simp only at o h8 h9 e;cases b with
  |true=>
   simp only[↓C2,H1,simprocAttr,h8,h9,e,o,d,w,Qm,i,AH a,Ah,Av,Aw,Zm,Ze,Zf,QE];refine aM1 (UV _) (by rw[CA];omega) hF ?_;simp only[↓C2,H1,simprocAttr,aIA,o,and_false,Vh,Ah,and_false];refine aB ⟨YJ,rfl,.inr ⟨by simp[BV],U⟩⟩ ?_;simp only[↓C2,HE,simprocAttr,e,u];refine ih (j+1) false _ _ _ O (aMb rfl ?_) h8 h9 rfl;rw[x];simp only[sI,FE,Q0];simp only[AF,QV,Q6];rw[toNat_ofNat O];rfl
  |false=>
   simp only[↓C2,H1,simprocAttr,h8,h9,e,o,d,w,Qm,i,AH a,Ah,Av,Aw,Zm,Ze,Zf,QE];refine aM1 (UV _) (by rw[CA];omega) hF ?_;simp only[↓C2,H1,simprocAttr,aIA,o,and_false,Vh,Ah,and_false];refine aB ⟨YJ,rfl,.inr ⟨by simp[BV],U⟩⟩ ?_;simp only[↓C2,HE,simprocAttr,e,u];refine ih (j+1) false _ _ _ O (aMb rfl ?_) h8 h9 rfl;rw[x];simp only[sI,FE,Q0];simp only[AF,QV,Q6];rw[toNat_ofNat O];rfl
def R8(p:Bool×List Mt):List D:=[.agg [.slice p.1 [] (Az p.2)]]
def yK(x y:Bool×List Mt)(e:R8 x=R8 y):x=y:=by
 grind [R8,eM]
def aBh:List D->Option D:=FX R8 (λp=>S9 p.2) (λp=> .str (BL p.2))
def bQ{n:Bool}{l:List Mt}(h:S9 l):aBh [.agg [.slice n [] (Az l)]]=some (.str (BL l)):=Ca (mk:=R8) (a:=(n,l)) yK h
def aCx:Kq aBh 86:=by
 obtain⟨S,s,hl⟩:=By (Aa (aUP aUB) Ad);have a:=hl 142 _ rfl;clear hl;refine C8 s (Aj func86:Fn Qc 86 35 aO2 [.t 2]) (λ_=>by simp[R8]) (λp g=>?_);obtain⟨n,l⟩:=p;have hl:S9 l:=g;unfold aO2 R8;simp only[↓C2,HH,Iz,simprocAttr,AX,Ah,Qf,QK,Qb,Qg,Qj,List.getElem?_cons_zero,and_self];refine aJs a hl (λv r c e=>?_) l.length 0 true [] _ _ O rfl rfl rfl rfl;simp only[↓C2,HH,Iz,simprocAttr,e,aKg,Df,and_self]
def PF(o:Oc)(nl:Bool)(l:List Mt):Oc:={o with vw:={o.vw with nlm:=nl,ms:=l}}
def Mb(o:Oc)(nl:Bool)(l:List Mt):Oc:={(PF o nl l).op 1 (Ao 4 [] 0) (BL l)with rep:=IY .done}
def qX(o:Oc)(nl:Bool)(l:List Mt)(p:Bs):Oc:={((((PF o nl l).op 1 (Ao 4 [] 0) (BL l)).op 3 ([109,47]++p++[47]) []).op 3 ([100,47]++p++[47]) [])with rep:=IY .done}
def S58:=Aq [(129,Ac F45),(144,wQ Pz),(211,Ac FN),(86,Ac aBh),(210,wQ O0),(146,wQ W56)]
def W58:Wb->Oc->List D->Option WY:=RW S58 aR8 [] 48
def aY1:(wQ W58).ok Qc 148:=Dw (Aj func148) (Aa aUs (Aa Tm (Aa Lh (Aa aCx (Aa Nv (Aa mY Ad))))))
def aF4(w:Wb)(o:Oc)(b:Oc)(ol:Option (List Nat))(k:o.nl=true->o.ops=[])(q:Bool)(s:List Mt)(e:Int)(la:F45 [.agg [.slice w.v.nlm [] (Az w.v.ms)],.agg [.str w.a.pa,.int .i64 w.a.n,.bool w.a.fl]]=some (.tup [.agg [.slice q [] (Az s)],.int .i64 e]))(c:e≠0)(r:Pz w o [.int .i64 e]=some (.tup [],b,ol)):W58 w o []=some (.tup [],b,ol.map (·++[33])):=by
 refine Bb k ⟨Qa rfl,λh=>CI r h,λl h=>CH r h,λi m fr t x j f n0=>?_⟩;have d:=Wt.start x j;unfold aR8;have y:=AM x.1;simp only[HG,↓C2,HB,simprocAttr,y,Ae S58 129,la];refine bW ?_;simp only[↓C2,HE,HB,simprocAttr,eq_false c,AE S58 144];refine Au d.put.put r (λM c1 c2=>?_);simp only[↓C2,HH,simprocAttr];exact c1.endc x.2.2
def aF3(w:Wb)(o:Oc)(q:Bool)(s:List Mt)(e:F45 [.agg [.slice w.v.nlm [] (Az w.v.ms)],.agg [.str w.a.pa,.int .i64 w.a.n,.bool w.a.fl]]=some (.tup [.agg [.slice q [] (Az s)],.int .i64 0]))(h0:kV o)(c:S9 s):W58 w o []=some (.tup [],Mb o q s,some ([11,42])):=by
 refine Bb (λ_=>h0.ops) ⟨Qa rfl,λh=>Xc,λl h=>XF,λi m fr t x j f n0=>?_⟩;have k:=Wt.start x j;unfold aR8;have y:=AM x.1;have g:=C5 4 0 [] U;have r:=g;have b:=bQ (n:=q) c;have na:=D4 w (PF o q s) 1 (Ao 4 [] 0) (BL s) (λ_=>h0.ops) YL;have z:=LB w ((PF o q s).op 1 (Ao 4 [] 0) (BL s)) (λh=>Xc);simp only[HG,↓C2,HB,simprocAttr,y,Ae S58 129,e];refine bW ?_;simp only[HG,↓C2,HB,simprocAttr,y,n0,Ae S58 211,r,Ae S58 86,b,AE S58 210];refine CF (k.put.put.cellp (p:=28) (ys:=[.slice q [] (Az s)]) (o':=PF o q s) (Qa rfl) rfl rfl rfl) na (λM u d c1 c2=>?_);simp only[↓C2,HH,Iz,simprocAttr];refine bW ?_;simp only[↓C2,HH,HZ,simprocAttr,AE S58 146];refine Au c1 z (λM2 d1 d2=>?_);simp only[↓C2,HH,simprocAttr];exact d1.endl (l:=[11,42]) U
def S59:=Aq [(212,Ac aA0),(144,wQ Pz),(211,Ac FN),(86,Ac aBh),(210,wQ O0),(213,Ac aAZ),(146,wQ W56)]
def W59:Wb->Oc->List D->Option WY:=RW S59 aR7 [] 53
def aY0:(wQ W59).ok Qc 149:=Dw (Aj func149) (Aa aWC (Aa Tm (Aa Lh (Aa aCx (Aa Nv (Aa aMQ (Aa mY Ad)))))))
def aF2(w:Wb)(o:Oc)(b:Oc)(ol:Option (List Nat))(k:o.nl=true->o.ops=[])(q:Bool)(s:List Mt)(e:Int)(c:aA0 [.agg [.slice w.v.nlm [] (Az w.v.ms)],.str w.a.pa]=some (.tup [.agg [.slice q [] (Az s)],.int .i64 e]))(y:e≠0)(r:Pz w o [.int .i64 e]=some (.tup [],b,ol)):W59 w o []=some (.tup [],b,ol.map (·++[21])):=by
 refine Bb k ⟨Qa rfl,λh=>CI r h,λl h=>CH r h,λi m fr t x j f n0=>?_⟩;have d:=Wt.start x j;unfold aR7;have g:=AM x.1;simp only[HG,↓C2,HB,simprocAttr,g,Ae S59 212,c];refine bW ?_;simp only[↓C2,HE,HB,simprocAttr,eq_false y,AE S59 144];refine Au d.put.put r (λM c1 c2=>?_);simp only[↓C2,HH,simprocAttr];exact c1.endc x.2.2
def aSx(w:Wb)(o:Oc)(g:Bool)(l2:List Mt)(c:aA0 [.agg [.slice w.v.nlm [] (Az w.v.ms)],.str w.a.pa]=some (.tup [.agg [.slice g [] (Az l2)],.int .i64 0]))(h0:kV o)(da:S9 l2)(y:w.a.pa.length<=1000000):W59 w o []=some (.tup [],qX o g l2 w.a.pa,some ([11,54])):=by
 refine Bb (λ_=>h0.ops) ⟨Qa rfl,λh=>Xc,λl h=>XF,λi m fr t x j s n0=>?_⟩;have hW:=Wt.start x j;unfold aR7;have xx:=AM x.1;have hk:=C5 4 0 [] U;have r:=hk;have b:=bQ (n:=g) da;have na:=D4 w (PF o g l2) 1 (Ao 4 [] 0) (BL l2) (λ_=>h0.ops) YL;have ga:=W_ w.a.pa y;generalize k:([109,47]++w.a.pa++[47]:Bs)=q1 at ga;generalize f:([100,47]++w.a.pa++[47]:Bs)=q2 at ga;have e:=D4 w ((PF o g l2).op 1 (Ao 4 [] 0) (BL l2)) 3 q1 [] (λh=>Xc) (by simp[Oc.op,PF,h0.ops]);have q:=D4 w (((PF o g l2).op 1 (Ao 4 [] 0) (BL l2)).op 3 q1 []) 3 q2 [] (λh=>Xc) (by simp[Oc.op,PF,h0.ops]);have z:=LB w ((((PF o g l2).op 1 (Ao 4 [] 0) (BL l2)).op 3 q1 []).op 3 q2 []) (λh=>Xc);have y0:((0:Nat):Int)=0:=rfl;have y1:((1:Nat):Int)=1:=rfl;have y2:((2:Nat):Int)=2:=rfl;have w1:IntKind.i64.wrap 1=1:=rfl;have w2:IntKind.i64.wrap 2=2:=rfl;have z1:(0:Int)+1=1:=rfl;have z2:(1:Int)+1=2:=rfl;unfold qX;rw[k,f];simp only[HG,↓C2,HB,simprocAttr,xx,Ae S59 212,c];refine bW ?_;simp only[HG,↓C2,HB,simprocAttr,xx,n0,Ae S59 211,r,Ae S59 86,b,AE S59 210];refine CF (hW.put.put.cellp (p:=28) (ys:=[.slice g [] (Az l2)]) (o':=PF o g l2) (Qa rfl) rfl rfl rfl) na (λM u d c1 c2=>?_);have xx:=AM c1.at_.1;simp only[↓C2,HH,Iz,simprocAttr];refine bW ?_;simp only[↓C2,HE,HB,simprocAttr,xx.2.2.2.2.2.2.2.1,Ae S59 213,ga,Qb,Qg];refine Af Wi.eq_1 ?_;simp only[↓C2,HE,HB,simprocAttr,Q1,Qb,Qg,AE S59 210];refine Au c1 e (λM2 d1 d2=>?_);simp only[↓C2,HH,simprocAttr,w1,z1];refine Af Wi.eq_1 ?_;simp only[↓C2,HE,HB,simprocAttr,ZC,Qb,Qg,AE S59 210];refine Au d1 q (λM3 e1 e2=>?_);simp only[↓C2,HH,simprocAttr,w2,z2];refine Af Wi.eq_1 ?_;simp only[↓C2,HE,HB,simprocAttr,AE S59 146];refine Au e1 z (λM4 f1 f2=>?_);simp only[↓C2,HH,simprocAttr];exact f1.endl (l:=[11,54]) U
def Ww:=y1 f137 5 [] []
def Wv:=y1 f137 13 [] []
def aOh:=y0 f137 [] [(5,Ww),(13,Wv)]
def aOZ:=y0 f82 [] []
def Ei(s:Bs):Bs:=bX 2 (s.length:Int)++s
def AL(l:List Bs):Bs:=l.flatMap Ei
def dX(l:List Bs)(s:Bs):AL (l++[s])=AL l++bX 2 (s.length:Int)++s:=by simp[AL,Ei]
def Mw:∀{l:List Bs},(∀s∈l,s.length<=60000)->(AL l).length<=60002*l.length
 |[],_=>by simp[AL]
 |x::r,h=>by
  have ih:=Mw (l:=r) (λs j=>h s (Qu _ j));have p:=h x Qo;have e:AL (x::r)=Ei x++AL r:=by simp[AL]
  rw[e];simp only[Qh,Ei,Hw,Qb];omega
def aXL:=Aq [(201,gQ 5 TH)]
def aK5:=RF aXL aOh [.t 2,.t 3] 46
def aWn:Kq aK5 137:=An (Aj func137) (Aa aMi Ad)
def aK4(nl:Bool)(l:List Bs)(hl:l.length<=1024)(hs:∀s∈l,s.length<=60000):aK5 [.slice nl [] (strsD l)]=some (.tup [.slice false [] (AF (AL l)),.int .i64 0]):=by
 refine Am (Qa rfl) ?_;unfold aOh;have r:((1024:Int)<(l.length:Int))=False:=eq_false O;simp only[↓C2,HH,HZ,HB,reduceIte,Qw,QF,reduceCtorEq,AR,r];refine BX (n:=l.length) (I:=λj v=>v.s 13= .slice nl [] (strsD l)∧v.s 14= .int .i64 l.length∧v.s 15= .int .i64 (j:Int)∧v.s 0= .slice nl [] (strsD l)∧∃a:Int,v.s 4= .int .i64 a∧0<=a∧a<=60002*(j:Int)) (λj z ih v g hI=>?_) (λv g hI=>?_) 0 (Qf _) _ _ ⟨rfl,rfl,rfl,rfl,0,rfl,O,O⟩
 ·obtain⟨ma,ia,u⟩:=v;obtain⟨ua,wa,ga,h0,a,h4,e,q⟩:=hI;simp only at ua wa ga h0 h4;refine Af Ww.eq_1 ?_;have ea:((j:Int)<(l.length:Int))=True:=eq_true O;have oa:=nJ (j:=j);have hw:IntKind.i64.wrap ((j:Int)+1)=((j+1:Nat):Int):=by rw[H9 O O];omega
  have ka:=DK (l:=l) (j:=j) z;have w:=hs l[j] (QL z);generalize l[j]=x at ka w;have hb:((65535:Int)<(x.length:Int))=False:=eq_false O;have w1:IntKind.i64.wrap (2+(x.length:Int))=2+(x.length:Int):=H9 O O;have w2:IntKind.i64.wrap (a+(2+(x.length:Int)))=a+(2+(x.length:Int)):=H9 O O;simp only[↓C2,HE,HB,reduceIte,Qw,QF,ua,wa,ga,h4,ea,oa,Qm,ka,hb,w1,w2,hw];exact ih _ _ ⟨ua,wa,rfl,h0,_,rfl,O,O⟩
 ·obtain⟨ma,ia,u⟩:=v;obtain⟨ua,wa,ga,h0,a,h4,e,q⟩:=hI;simp only at ua wa ga h0 h4;refine Af Ww.eq_1 ?_;have p:¬(a<0):=by omega
  simp only[↓C2,HE,HB,reduceIte,Qw,QF,Int.reduceLE,wa,ga,h4,Zb,e];refine aB (by have e2:((1:Nat):Int)+1=2:=rfl;rw[e2];omega) ?_;simp only[↓C2,HH,HB,reduceIte,Qw,QF,reduceCtorEq,h0,AR,Q1,List.replicate_zero];refine BX (n:=l.length) (I:=λj v=>v.s 30= .slice nl [] (strsD l)∧v.s 31= .int .i64 l.length∧v.s 32= .int .i64 (j:Int)∧∃t,v.s 7= .slice false t (AF (AL (l.take j)))∧Gd 5 [] (λ_ _=>none) true [] v.m v.c t) (λj z ih v g hI=>?_) (λv g hI=>?_) 0 (Qf _) _ _ ⟨rfl,rfl,rfl,_,rfl,⟨[],_,rfl,Xa⟩,XU,λi o hi=>absurd ⟨i,U⟩ hi⟩
  ·obtain⟨ma,ia,u⟩:=v;obtain⟨f,d,b,t,h7,hG⟩:=hI;simp only at f d b h7 hG;refine Af Wv.eq_1 ?_;have ea:((j:Int)<(l.length:Int))=True:=eq_true O;have oa:=nJ (j:=j);have hw:IntKind.i64.wrap ((j:Int)+1)=((j+1:Nat):Int):=by rw[H9 O O];omega
   have ka:=DK (l:=l) (j:=j) z;have w:=hs l[j] (QL z);have qa:l.take (j+1)=l.take j++[l[j]]:=QR z;have sa:(AL (l.take j)).length<=60002*j:=by
    have:=Mw (l:=l.take j) (λs hh=>hs s (Q3 hh));rw[Za]at this;omega
   generalize l[j]=x at ka w qa;have wu:IntKind.u64.wrap (x.length:Int)=(x.length:Int):=by
    unfold IntKind.wrap;simp only;rw[show IntKind.u64.bits=64 from rfl,show IntKind.u64.signed=false from rfl,Zx,if_neg Bool.false_ne_true];omega
   have hF:TH [.int .i64 2,.int .u64 (x.length:Int)]=some (AF (bX 2 (x.length:Int)),[26]):=by
    show(if 1<=(2:Int)∧(2:Int)<=8∧0<=(x.length:Int)then some (AF (bX (2:Int).toNat (x.length:Int)),[13*(2:Int).toNat])else none)=_;rw[if_pos ⟨O,O,O⟩];rfl
   have y:=hG.gs;have ya:B8 (λ_ _=>none) 5 true [] true=true:=rfl;simp only[↓C2,HE,HB,reduceIte,Qw,QF,f,d,b,h7,ea,oa,Qm,ka,wu,AE aXL 201];refine aM0 (y.grow (λ_ _ _=>rfl) ya) (λh=>Xc) (by simp[AF];omega) hF ?_;have hA:=y.app (k:=u+1+3+4) (c':=u+1+3+5) (l:=[26]) (xs:=AF (AL (l.take j))) O O;simp only[↓C2,HH,Iz,HB,reduceIte,Qw,QF];refine aB ⟨by simp only[Qh,AF,Qr,Hw];omega,by cases x<;>rfl,hA.gs.grow (λ_ _ _=>rfl) ya⟩ ?_;have hB:=hA.gs.app (k:=u+1+3+6+2) (c':=u+1+3+6+3) (l:=[]) (xs:=AF (AL (l.take j))++AF (bX 2 (x.length:Int))) O O;simp only[↓C2,HH,HB,reduceIte,Qw,QF,b,hw];refine ih _ _ ⟨f,d,rfl,_,?_,hB.more Xa⟩;rw[qa,dX];show D.slice _ _ _=_;simp[AF]
  ·obtain⟨ma,ia,u⟩:=v;obtain⟨f,d,b,t,h7,hG⟩:=hI;simp only at f d b h7 hG;refine Af Wv.eq_1 ?_;rw[Zn]at h7;simp only[↓C2,HE,HB,reduceIte,Qw,QF,d,b,h7,Zb]
   all_goals exact Y2
def aKs:=Aq [(135,Ac qI),(136,Ac aLK),(137,Ac aK5)]
def aAY:=RF aKs aOZ [.t 2,.t 3] 31
def aMP:Kq aAY 82:=An (Aj func82) (Aa aCy (Aa aMo (Aa aWn Ad)))
def vP(n p:Bs)(a:Bool)(rs:List Rl)(d:Bs)(w:Int)(z:qI [.agg [.str n,.str p,.slice a [] (As rs)]]=some (.int .i64 0))(q:aLK [.slice a [] (As rs)]=some (.tup [.str d,.int .i64 w]))(g:p.length<=60000)(i:d.length<=60000):aAY [.agg [.str n,.str p,.slice a [] (As rs)]]=some (.tup [.str (AL [p,d]),.int .i64 0]):=by
 refine Am (Qa rfl) ?_;unfold aOZ;have b:aK5 [.slice false [] [.str p,.str d]]=some (.tup [.slice false [] (AF (AL [p,d])),.int .i64 0]):=aK4 false [p,d] U (by
  intro s j;simp only[Qn,Zl,or_false]at j;rcases j with rfl|rfl
  ·exact g
  ·exact i)
 simp only[HG,↓C2,HB,reduceIte,Qw,QF,Nat.reduceLT,Ae aKs 135,z,Ae aKs 136,q,Ae aKs 137,b,Df]
 all_goals exact Y2
def PW(o:Oc)(nl:Bool)(l:List Tk):Oc:={o with vw:={o.vw with nlt:=nl,ks:=l}}
def mkO(o:Oc)(nl:Bool)(l:List Tk)(n d:Bs):Oc:={(PW o nl l).op 1 (Ao 3 n 0) d with rep:=IY .done}
def S60:=Aq [(196,Ac F50),(19,Ac qH),(82,Ac aAY),(144,wQ Pz),(211,Ac FN),(210,wQ O0),(146,wQ W56)]
def W60:Wb->Oc->List D->Option WY:=RW S60 aJ0 [] 72
def aYZ:(wQ W60).ok Qc 150:=Dw (Aj func150) (Aa aUq (Aa aVb (Aa aMP (Aa Tm (Aa Lh (Aa Nv (Aa mY Ad)))))))
def aF1(w:Wb)(o:Oc)(b:Oc)(ol:Option (List Nat))(k:o.nl=true->o.ops=[])(q:Bool)(k2:List Tk)(e:Int)(p:F50 [.agg [.slice w.v.nlt [] (Ar w.v.ks)],.agg [.str w.a.ot,.str w.a.tk,.slice w.a.nlr [] (As w.a.rs)]]=some (.tup [.agg [.slice q [] (Ar k2)],.int .i64 e]))(c:e≠0)(r:Pz w o [.int .i64 e]=some (.tup [],b,ol)):W60 w o []=some (.tup [],b,ol.map (·++[47])):=by
 refine Bb k ⟨Qa rfl,λh=>CI r h,λl h=>CH r h,λi m fr t x j f n0=>?_⟩;have d:=Wt.start x j;unfold aJ0;have y:=AM x.1;simp only[HG,↓C2,HB,simprocAttr,y];refine bW ?_;simp only[HG,↓C2,HB,simprocAttr,y,n0,Ae S60 196,p];refine bW ?_;simp only[↓C2,HE,HB,simprocAttr,eq_false c,AE S60 144];refine Au d.put.put.put.put r (λM c1 c2=>?_);simp only[↓C2,HH,simprocAttr];exact c1.endc x.2.2
def aF0(w:Wb)(o:Oc)(b:Oc)(ol:Option (List Nat))(k:o.nl=true->o.ops=[])(q:Bool)(k2:List Tk)(p:F50 [.agg [.slice w.v.nlt [] (Ar w.v.ks)],.agg [.str w.a.ot,.str w.a.tk,.slice w.a.nlr [] (As w.a.rs)]]=some (.tup [.agg [.slice q [] (Ar k2)],.int .i64 0]))(nb:Bool)(ns:List D)(f:qH [.agg [.slice w.v.nlt [] (Ar w.v.ks)]]=some (.slice nb [] ns))(n:(24:Int)<=(ns.length:Int))(r:Pz w o [.int .i64 24]=some (.tup [],b,ol)):W60 w o []=some (.tup [],b,ol.map (·++[48])):=by
 refine Bb k ⟨Qa rfl,λh=>CI r h,λl h=>CH r h,λi m fr t x j s n0=>?_⟩;have d:=Wt.start x j;unfold aJ0;have y:=AM x.1;simp only[HG,↓C2,HB,simprocAttr,y];refine bW ?_;simp only[HG,↓C2,HB,simprocAttr,y,n0,Ae S60 196,p];refine bW ?_;simp only[HG,↓C2,HB,simprocAttr,y,n0,Ae S60 19,f,eq_true n,AE S60 144];refine Au d.put.put.put.put r (λM c1 c2=>?_);simp only[↓C2,HH,simprocAttr];exact c1.endc x.2.2
def aSw(w:Wb)(o:Oc)(q:Bool)(k2:List Tk)(ga:F50 [.agg [.slice w.v.nlt [] (Ar w.v.ks)],.agg [.str w.a.ot,.str w.a.tk,.slice w.a.nlr [] (As w.a.rs)]]=some (.tup [.agg [.slice q [] (Ar k2)],.int .i64 0]))(nb:Bool)(ns:List D)(f:qH [.agg [.slice w.v.nlt [] (Ar w.v.ks)]]=some (.slice nb [] ns))(b:kV o)(n:¬(24:Int)<=(ns.length:Int))(d:Bs)(k:Int)(g:aAY [.agg [.str w.a.ot,.str w.a.tk,.slice w.a.nlr [] (As w.a.rs)]]=some (.tup [.str d,.int .i64 k]))(y:w.a.ot.length<=1000000):W60 w o []=some (.tup [],mkO o q k2 w.a.ot d,some ([11,67])):=by
 refine Bb (λ_=>b.ops) ⟨Qa rfl,λh=>Xc,λl h=>XF,λi m fr t x j s n0=>?_⟩;have c:=Wt.start x j;unfold aJ0;have r:=C5 3 0 w.a.ot y;have na:=D4 w (PW o q k2) 1 (Ao 3 w.a.ot 0) d (λ_=>b.ops) (by show o.ops.length<=_;rw[b.ops];simp);have z:=LB w ((PW o q k2).op 1 (Ao 3 w.a.ot 0) d) (λh=>Xc);have e:=AM x.1;simp only[HG,↓C2,HB,simprocAttr,e];refine bW ?_;simp only[HG,↓C2,HB,simprocAttr,e,n0,Ae S60 196,ga];refine bW ?_;simp only[HG,↓C2,HB,simprocAttr,e,n0,Ae S60 19,f,eq_false n,Ae S60 82,g,Ae S60 211,r,AE S60 210];refine Au (c.put.put.put.put.cellp (p:=29) (ys:=[.slice q [] (Ar k2)]) (o':=PW o q k2) (Qa rfl) rfl rfl rfl) na (λM c1 c2=>?_);simp only[↓C2,HH,HZ,simprocAttr,AE S60 146];refine Au c1 z (λM2 u d2=>?_);simp only[↓C2,HH,simprocAttr];exact u.endl (l:=[11,67]) U
def aNl:=y0 f238 [] []
def aNA:=y0 Tryz.f166 [] []
def aOe:=y0 f271 [] []
def oN:=y1 f152 6 [] []
def aJY:=y0 f152 [] [(6,oN)]
def nE:∀(l:Bs)(c:UInt8),Lib.indexByte l c=-1∨(0<=Lib.indexByte l c∧Lib.indexByte l c<(l.length:Int))
 |[],_=> .inl rfl
 |b::l,c=>by
  have ih:=nE l c;simp only[Lib.indexByte,beq_iff_eq,Qb];split
  ·omega
  ·omega
def BZ(s:Bs)(c:UInt8):Bs×Bs×Bool:=if Lib.indexByte s c<0 then(s,[],false)else(s.take (Lib.indexByte s c).toNat,s.drop ((Lib.indexByte s c).toNat+1),true)
def Cv(s z:Bs):Bs×Bool:=if Bo s z=false then([],false)else if(BZ (Di s z) 47).2.2=true then((BZ (Di s z) 47).1++[47],true)else(Di s z,true)
def aYd{s:Bs}{c:UInt8}:IX [.str s,.str [c]]=some (.int .i64 (Lib.indexByte s c)):=rfl
def aSC:=Aq [(237,Ac IX)]
def aSS:=RF aSC aNl [.t 4,.t 5,.t 6] 23
def aVR:Kq aSS 238:=An (Aj func238) (Aa aVV Ad)
def aKB(s:Bs)(c:UInt8)(hl:s.length<=1000000):aSS [.str s,.str [c]]=some (.tup [.str (BZ s c).1,.str (BZ s c).2.1,.bool (BZ s c).2.2]):=by
 refine Am (Qa rfl) ?_;unfold aNl;have a:=aYd (s:=s) (c:=c);have f:=nE s c;unfold BZ;generalize Lib.indexByte s c=q at *;by_cases z:q<0
 ·have b:((0:Int)<=q)=False:=eq_false O;rw[if_pos z];simp only[↓C2,HE,HB,simprocAttr,Ae aSC 237,a,b]
  all_goals exact Y2
 ·have b:(0:Int)<=q:=by omega
  have m:(q<=(s.length:Int))=True:=eq_true O;have n:(q+1<=(s.length:Int))=True:=eq_true O;have t:(0:Int)<=q+1:=O
  have i:(q+1).toNat=q.toNat+1:=O
  have u:q.toNat<=s.length:=O
  have v:q.toNat+1<=s.length:=O
  have k:IntKind.i64.wrap (q+1)=q+1:=H9 O O;have y1:((1:Nat):Int)=1:=rfl;have x:ZA (s.length-(q.toNat+1)) (s.drop (q.toNat+1))=s.drop (q.toNat+1):=QJ X4;rw[if_neg z];simp only[↓C2,HE,HB,simprocAttr,Ae aSC 237,a,b,m,n,t,i,k,y1,x,Q2,Qb,Qg];refine aB (λp g=>Xm) ?_;simp only[↓C2,HE,HB,simprocAttr]
  all_goals exact Y2
def aXC:=Aq [(238,Ac aSS)]
def aKL:=RF aXC aNA [.t 4,.t 5,.t 6] 13
def aMD:Kq aKL 166:=An (Aj func166) (Aa aVR Ad)
def vG(s:Bs)(c:UInt8)(hl:s.length<=1000000):aKL [.str s,.str [c]]=some (.tup [.str (BZ s c).1,.str (BZ s c).2.1,.bool (BZ s c).2.2]):=by
 refine Am (Qa rfl) ?_;unfold aNA;have a:=aKB s c hl;simp only[↓C2,HE,HB,simprocAttr,Ae aXC 238,a]
 all_goals exact Y2
def aAU:=Aq [(109,Ac aA9),(166,Ac aKL)]
def aX8:=RF aAU aOe [.t 4,.t 5] 29
def aWl:Kq aX8 271:=An (Aj func271) (Aa aMh (Aa aMD Ad))
def aK2(s z:Bs)(hl:s.length<=1000000)(i:(Di s z).length<=s.length):aX8 [.str s,.str z]=some (.tup [.str (Cv s z).1,.bool (Cv s z).2]):=by
 refine Am (Qa rfl) ?_;unfold aOe;have c:aA9 [.str s,.str z]=some (.tup [.str (Di s z),.bool (Bo s z)]):=rfl;have d:=vG (Di s z) 47 O;have w:(BZ (Di s z) 47).1.length<=(Di s z).length:=by
  grind [BZ]
 unfold Cv;generalize BZ (Di s z) 47=q at *;generalize Di s z=r at *;obtain⟨j,o,m⟩:=q;simp only at w d ⊢;cases hb:Bo s z with
 |false=>
  rw[hb]at c;simp only[↓C2,HE,HB,simprocAttr,Ae aAU 109,c]
  all_goals exact Y2
 |true=>
  rw[hb]at c;have x:=LA (a:=j) (b:=[47]) YF;cases m with
  |false=>
   simp only[↓C2,HE,HB,simprocAttr,Ae aAU 109,c,Ae aAU 166,d]
   all_goals exact Y2
  |true=>
   have t:(j.length+1<=9223372036854775807)=True:=eq_true O;simp only[↓C2,HE,HB,simprocAttr,Ae aAU 109,c,Ae aAU 166,d,x]
   all_goals exact Y2
def Wm:=y1 f312 2 [] []
def aNC:=y0 f312 [] [(2,Wm)]
def aOg:=y0 f269 [] []
def zK{l:List Bs}{n:Bs}{j:Nat}(z:j<l.length)(p:n=l[j])(f:∀i (h:i<j),n≠l[i]'(by omega)):Bc (l.map λx=>decide (n=x))=j:=by
 unfold Bc;have:(l.map λx=>decide (n=x)).findIdx? id=some j:=by
  rw[List.findIdx?_eq_some_iff_getElem];refine⟨Xw,by simp[p],λi hi=>?_⟩;have:=f i hi;simpa using this
 rw[this]
def zJ{l:List Bs}{n:Bs}(s:∀i (h:i<l.length),n≠l[i]):Bc (l.map λx=>decide (n=x))=-1:=by
 unfold Bc;have:(l.map λx=>decide (n=x)).findIdx? id=none:=by
  rw[List.findIdx?_eq_none_iff];intro b f;obtain⟨x,p,rfl⟩:=Qp.1 f;obtain⟨i,hi,rfl⟩:=QI p;simpa using s i hi
 rw[this]
def GV(l:List Bs)(n:Bs):Bool:=l.any λx=>decide (n=x)
def fP(l:List Bs)(n:Bs):decide (0<=Bc (l.map λx=>decide (n=x)))=GV l n:=by
 rw[Hs,List.any_map];rfl
def aZt:=Aq []
def aSZ:=RF aZt aNC [.t 4] 19
def aV3:Kq aSZ 312:=An (Aj func312) Ad
def aKM{nl:Bool}{l:List Bs}(n:Bs)(hl:l.length<=100000):aSZ [.slice nl [] (strsD l),.str n]=some (.int .i64 (Bc (l.map λx=>decide (n=x)))):=by
 refine Am (Qa rfl) ?_;unfold aNC;simp only[↓C2,HH,simprocAttr,AR];refine BX (n:=l.length) (I:=λj v=>v.s 0= .slice nl [] (strsD l)∧v.s 1= .str n∧v.s 7= .int .i64 l.length∧v.s 8= .int .i64 (j:Int)∧∀i (h:i<j) (y:i<l.length),n≠l[i]) (λj z ih v g hI=>?_) (λv g hI=>?_) 0 (Qf _) _ _ ⟨rfl,rfl,rfl,rfl,λi h=>absurd h (ZJ _)⟩
 ·obtain⟨w,t,c⟩:=v;obtain⟨b,u,m,q,f⟩:=hI;simp only at b u m q;refine Af Wm.eq_1 ?_;have d:((j:Int)<l.length):=by omega
  have a:=nJ (j:=j);have k:=wJ (j:=j) O;have o:=DK (l:=l) (j:=j) z;by_cases p:n=l[j]
  ·have e:=zK z p (λi h=>f i h O);have r:(n=l[j])=True:=eq_true p;simp only[↓C2,HE,HB,simprocAttr,b,u,m,q,d,a,Qm,o,r];rw[e]
   all_goals exact Y2
  ·have r:(n=l[j])=False:=eq_false p;simp only[↓C2,HE,HB,simprocAttr,b,u,m,q,d,a,Qm,o,r,k];refine ih _ _ ⟨b,u,m,rfl,λi h y=>?_⟩;rcases Nat.lt_or_eq_of_le (Nat.le_of_lt_succ h)with h|rfl
   ·exact f i h y
   ·exact p
 ·obtain⟨b,u,m,q,f⟩:=hI;refine Af Wm.eq_1 ?_;have e:=zJ (λi h=>f i h h);simp only[↓C2,HE,HB,simprocAttr,m,q,Zb];rw[e]
  all_goals exact Y2
def aXK:=Aq [(312,Ac aSZ)]
def aX9:=RF aXK aOg [.t 4] 9
def aWm:Kq aX9 269:=An (Aj func269) (Aa aV3 Ad)
def aK3{nl:Bool}{l:List Bs}(n:Bs)(hl:l.length<=100000):aX9 [.slice nl [] (strsD l),.str n]=some (.bool (GV l n)):=by
 refine Am (Qa rfl) ?_;unfold aOg;have a:=aKM (nl:=nl) n hl;have e:=fP l n;generalize Bc (l.map λx=>decide (n=x))=i at *;simp only[↓C2,HE,HB,simprocAttr,Ae aXK 312,a];rw[←e]
 all_goals exact Y2
def Ce(l:List Bs):List Bs:=l.filterMap λs=>if(Da s).2=0∧(Da s).1.1=1 then some (Da s).1.2.1 else none
def eB(l:List Bs)(s:Bs):Ce (l++[s])=Ce l++if(Da s).2=0∧(Da s).1.1=1 then [(Da s).1.2.1]else []:=by
 grind [Ce]
def Gx(e:Nat)(fr:Id)(m:HF)(c:Nat)(nl:Bool)(t:Id):Prop:=(nl=true∧t=[])∨(nl=false∧∃k,t=k::fr∧k<c∧m t 0=some (.tok (e+1)))
def Gx.more{e:Nat}{fr:Id}{m:HF}{c c':Nat}{nl:Bool}{t:Id}(h:Gx e fr m c nl t)(d:c<=c'):Gx e fr m c' nl t:=by
 rcases h with h|⟨u,k,y,o,j⟩
 ·exact .inl h
 ·exact .inr ⟨u,k,y,O,j⟩
def Gx.put{e:Nat}{fr:Id}{m:HF}{c:Nat}{nl:Bool}{t:Id}{k o:Nat}{ds:List D}(h:Gx e fr m c nl t)(g:c<=k:=by omega):Gx e fr (m.put (k::fr) o ds) c nl t:=by
 rcases h with h|⟨u,q,y,r,j⟩
 ·exact .inl h
 ·refine .inr ⟨u,q,y,r,?_⟩;rw[aA]
  ·exact j
  ·rw[y];simp;omega
def Gx.grow{e:Nat}{fr:Id}{m:HF}{c:Nat}{nl:Bool}{t:Id}{xs:List D}(h:Gx e fr m c nl t):Mf m e (.slice nl t xs):=by
 rcases h with h|⟨u,q,y,o,j⟩
 ·exact .inl h.1
 ·exact .inr ⟨j,by rw[y];simp⟩
def Gx.app{e:Nat}{fr:Id}{m:HF}{c' k:Nat}{nl:Bool}{t:Id}{xs:List D}(g:k<c'):Gx e fr (HN.app m (Bm e (k::fr) (.slice nl t xs))) c' false (k::fr):=
 .inr ⟨rfl,k,rfl,g,by rw[Dj,if_pos ⟨rfl,rfl⟩]⟩
def Wt.own{i fr t0 t:Id}{m0 m:HF}{nl0:Bool}{w:Wb}{o:Oc}{e c k:Nat}{nl:Bool}{r:Id}{xs:List D}(h:Wt i fr m0 nl0 t0 m w o t)(y:∀j x,fr<:+j->m0 j x=none)(f:∀k,(i=k::fr)=False)(a:Gx e fr m c nl r):Wt i fr m0 nl0 t0 (HN.app m (Bm e (k::fr) (.slice nl r xs))) w o t:=by
 rcases a with ⟨rfl,_⟩|⟨rfl,q,rfl,_,_⟩
 ·exact h.put y f
 ·exact(h.put y f).put y f
def S62(G:List D->Option D):HD:=Aq [(213,Ac aAZ),(215,Ac qC),(216,wQ WU),(22,Ac R38),(217,Ac G),(145,wQ iY)]
def W62(G:List D->Option D):Wb->Oc->List D->Option WY:=RW (S62 G) aJY [] 72
def aYX{G:List D->Option D}(h:Kq G 217):(wQ (W62 G)).ok Qc 152:=Dw (Aj func152:Fn Qc 152 72 aJY []) (Aa aMQ (Aa aWB (Aa aDb (Aa aVS (Aa h (Aa mZ Ad))))))
def aFY(G:List D->Option D)(w:Wb)(o:Oc)(b:Oc)(ol:Option (List Nat))(q:o.nl=true->o.ops=[])(cb:Bool)(f:List Bs)(g:w.a.pa.length<=1000000)(u:qC [.agg (Im w.k),.str ([109,47]++w.a.pa++[47])]=some (.tup [.slice cb [] (strsD f),.bool false]))(n:WU w o [.str ([109,47]++w.a.pa++[47]),.bool true]=some (.tup [],b,ol)):W62 G w o []=some (.tup [],b,ol.map (·++[24])):=by
 refine Bb q ⟨Qa rfl,λh=>CI n h,λl h=>CH n h,λi m fr t x j s n0=>?_⟩;have z:S62 G 213=some (Ac aAZ):=rfl;have v:S62 G 215=some (Ac qC):=rfl;have r:S62 G 216=some (wQ WU):=rfl;have d:=Wt.start x j;unfold aJY;have y:=AM x.1;have p:=W_ w.a.pa g;generalize c:([109,47]++w.a.pa++[47]:Bs)=e at *;generalize ([100,47]++w.a.pa++[47]:Bs)=q2 at *;unfold Im at u;have y1:((1:Nat):Int)=1:=rfl;have y2:((2:Nat):Int)=2:=rfl;have eb:(0:Int)<=0:=ZS _;simp only[HG,↓C2,HB,simprocAttr,y,eb,Q1,Qb,Qg,Ab z,p,Ab v,u,AH r];refine Au d n (λM c1 c2=>?_);simp only[↓C2,HH,simprocAttr];exact c1.endc x.2.2
def aSu(G:List D->Option D)(w:Wb)(o:Oc)(o2:Oc)(ho:o.nl=true->o.ops=[])(cb:Bool)(f:List Bs)(hp:w.a.pa.length<=1000000)(u:qC [.agg (Im w.k),.str ([109,47]++w.a.pa++[47])]=some (.tup [.slice cb [] (strsD f),.bool true]))(hl:f.length<=2000)(hs:∀s∈f,s.length<=1000000)(nn:Bool)(d:List Bs)(hb:∀b,(b=true->Ce f=[])->G [.str w.a.pa,.slice b [] (strsD (Ce f))]=some (.slice nn [] (strsD d)))(fa:d.length<=2000)(ib:nn=true->d=[])(ta:iY w o [.agg (Iv (.names nn (d.take 64)))]=some (.tup [],o2,none)):W62 G w o []=some (.tup [],o2,none):=by
 refine Bb ho ⟨Qa rfl,λh=>((Fl ta).2.1 rfl),λl h=>Xc,λi m fr t ha ba ja n0=>?_⟩;have z:S62 G 213=some (Ac aAZ):=rfl;have v:S62 G 215=some (Ac qC):=rfl;have gb:S62 G 22=some (Ac R38):=rfl;have fb:S62 G 217=some (Ac G):=rfl;have ab:S62 G 145=some (wQ iY):=rfl;have hW:=Wt.start ha ba;unfold aJY;have xx:=AM ha.1;have ga:=W_ w.a.pa hp;generalize wa:([109,47]++w.a.pa++[47]:Bs)=q1 at *;generalize ([100,47]++w.a.pa++[47]:Bs)=q2 at *;unfold Im at u;have y1:((1:Nat):Int)=1:=rfl;have y2:((2:Nat):Int)=2:=rfl;have eb:(0:Int)<=0:=ZS _;simp only[HG,↓C2,HB,simprocAttr,xx,eb,Q1,Qb,Qg,Ab z,ga,Ab v,u,AR];refine BX (n:=f.length) (I:=λj st=>st.s 33= .slice cb [] (strsD f)∧st.s 34= .int .i64 f.length∧st.s 35= .int .i64 (j:Int)∧st.s 0= .ptr i 0∧∃nl' t',st.s 5= .slice nl' t' (strsD (Ce (f.take j)))∧(nl'=true->Ce (f.take j)=[])∧Gx 9 fr st.m st.c nl' t'∧Wt i fr m o.nl t st.m w o t) (λj hj ih st g hI=>?_) (λst g hI=>?_) 0 (Qf _) _ _ ⟨rfl,rfl,rfl,rfl,true,[],rfl,λ_=>rfl,.inl ⟨rfl,rfl⟩,hW⟩
 ·obtain⟨ma,ia,da⟩:=st;obtain⟨va,la,aa,y,nl',t',h5,ca,hG,hw⟩:=hI;simp only at va la aa y h5 hG hw;refine Af oN.eq_1 ?_;have ea:((j:Int)<(f.length:Int))=True:=eq_true O;have oa:=nJ (j:=j);have ra:IntKind.i64.wrap ((j:Int)+1)=((j+1:Nat):Int):=by rw[H9 O O];omega
  have ka:=DK (l:=f) (j:=j) hj;have ua:=aGi f[j] (hs _ (QL hj));have qa:f.take (j+1)=f.take j++[f[j]]:=QR hj;have sa:(Ce (f.take j)).length<=j:=by
   have:=Q5 (λs=>if(Da s).2=0∧(Da s).1.1=1 then some (Da s).1.2.1 else none) (f.take j);rw[Za]at this;unfold Ce;omega
  have xa:=eB (f.take j) f[j];rw[←qa]at xa;generalize f[j]=x at *;generalize Da x=px at *;obtain⟨⟨kk,nm,vv⟩,e⟩:=px;simp only at xa ua;unfold kyD at ua;by_cases he:e=0
  ·subst he;by_cases hk:kk=1
   ·subst hk;simp only[and_self,if_true]at xa;simp only[HG,↓C2,HB,simprocAttr,va,la,aa,h5,ea,oa,Qm,ka,AR,Ab gb,ua];have bb:=((hG.put (k:=da+1+3+5) (o:=0) (ds:=[.int .u8 0,.str [],.int .i64 0]) O).put (k:=da+1+3+5) (o:=0) (ds:=[.int .u8 1,.str nm,.int .i64 vv]) O).put (k:=da+1+3+8+7+3) (o:=0) (ds:=[.tok 10]) O;have kb:=((hw.put (q:=da+1+3+5) (p:=0) (ys:=[.int .u8 0,.str [],.int .i64 0])).put (q:=da+1+3+5) (p:=0) (ys:=[.int .u8 1,.str nm,.int .i64 vv])).put (q:=da+1+3+8+7+3) (p:=0) (ys:=[.tok 10]);refine aB ⟨O,rfl,bb.grow⟩ ?_;rw[BF (λh=>by rw[ca h];rfl),Om];have db:=kb.own (e:=9) (k:=da+1+3+8+7+4) (xs:=strsD (Ce (f.take j))) ba n0 bb;have ya:=Gx.app (e:=9) (fr:=fr) (m:=((ia.put ((da+1+3+5)::fr) 0 [D.int .u8 0,.str [],.int .i64 0]).put ((da+1+3+5)::fr) 0 [.int .u8 1,.str nm,.int .i64 vv]).put ((da+1+3+8+7+3)::fr) 0 [.tok 10]) (k:=da+1+3+8+7+4) (c':=da+1+3+8+7+5) (nl:=nl') (t:=t') (xs:=strsD (Ce (f.take j))) O;simp only[↓C2,HH,simprocAttr,aa,ra];exact ih _ _ ⟨va,la,rfl,y,false,(da+1+3+8+7+4)::fr,(by rw[xa];show D.slice _ _ _=_;simp[strsD]),(λh=>Xc),ya.more (c':=da+1+3+8+7+6+2) O,db⟩
   ·rw[if_neg (λh=>hk h.2),Zu]at xa;simp only[HG,↓C2,HB,simprocAttr,va,la,aa,ea,oa,Qm,ka,Ab gb,ua,eq_false hk,ra];exact ih _ _ ⟨va,la,rfl,y,nl',t',by rw[xa];exact h5,by rw[xa];exact ca,hG.put.put.more Xa,hw.put.put⟩
  ·rw[if_neg (λh=>he h.1),Zu]at xa;simp only[HG,↓C2,HB,simprocAttr,va,la,aa,ea,oa,Qm,ka,Ab gb,ua,eq_false he,ra];exact ih _ _ ⟨va,la,rfl,y,nl',t',by rw[xa];exact h5,by rw[xa];exact ca,hG.put.put.more Xa,hw.put.put⟩
 ·obtain⟨ma,ia,da⟩:=st;obtain⟨va,la,aa,y,nl',t',h5,ca,hG,hw⟩:=hI;simp only at va la aa y h5 hG hw;refine Af oN.eq_1 ?_;rw[Zn]at h5 ca;have na:=hb nl' ca;have za:ZA 64 (strsD d)=strsD (d.take 64):=(ZO ..).symm;have xx:=AM hw.at_.1;have hq:∃q:Int,min (d.length:Int) 64=q∧0<=q∧q<=(d.length:Int)∧q.toNat<=d.length∧ZA q.toNat (strsD d)=strsD (d.take 64):=by
   refine⟨_,rfl,O,O,O,?_⟩;rw[←za];by_cases c:d.length<=64
   ·rw[QJ (by rw[AR];omega),QJ (by rw[AR];omega)]
   ·grind
  obtain⟨q,r,q0,jb,lb,q3⟩:=hq;have hd:aF (strsD d) 1=1:=by cases d<;>rfl
  simp only[Iv]at ta;simp only[↓C2,HE,HB,simprocAttr,y,la,aa,h5,Zb,xx.2.2.2.2.2.2.2.1,Ab fb,na,AR,r,q0,jb,hd,Q2,q3,AH ab];refine Au hw ta (λM c1 c2=>?_);simp only[↓C2,HH,simprocAttr];exact c1.end0 ha.2.2
def Dl(o:Oc)(l:List Bs):Oc:={o with nl:=o.nl&&l.isEmpty,ops:=o.ops++l.map λn=>(2,Ao 3 n 0,[])}
def aDU{o:Oc}{l:List Bs}{n:Bs}:(Dl o l).op 2 (Ao 3 n 0) []=Dl o (l++[n]):=by
 simp[Dl,Oc.op]
def zB{o:Oc}:Dl o []=o:=by simp[Dl]
def RZ(o:Oc)(nl:Bool)(k:List Tk)(gnl:Bool)(gone:List Bs):Oc:={Dl (PW o nl k) gone with rep:=IY (.names gnl gone)}
def S61(G:List D->Option D):HD:=Aq [(214,Ac G),(144,wQ Pz),(211,Ac FN),(210,wQ O0),(145,wQ iY)]
def W61(G:List D->Option D):Wb->Oc->List D->Option WY:=RW (S61 G) aJZ [] 48
def aYY{G:List D->Option D}(h:Kq G 214):(wQ (W61 G)).ok Qc 151:=Dw (Aj func151:Fn Qc 151 48 aJZ []) (Aa h (Aa Tm (Aa Lh (Aa Nv (Aa mZ Ad)))))
def aFZ(G:List D->Option D)(w:Wb)(o:Oc)(p:Oc)(ol:Option (List Nat))(k:o.nl=true->o.ops=[])(q:Bool)(k2:List Tk)(gnl:Bool)(gone:List Bs)(e:Int)(d:G [.agg [.slice w.v.nlt [] (Ar w.v.ks)],.str w.a.ot]=some (.tup [.agg [.slice q [] (Ar k2)],.slice gnl [] (strsD gone),.int .i64 e]))(y:e≠0)(r:Pz w o [.int .i64 e]=some (.tup [],p,ol)):W61 G w o []=some (.tup [],p,ol.map (·++[23])):=by
 refine Bb k ⟨Qa rfl,λh=>CI r h,λl h=>CH r h,λi m fr t x j f n0=>?_⟩;have b:S61 G 214=some (Ac G):=rfl;have c:S61 G 144=some (wQ Pz):=rfl;have hW:=Wt.start x j;unfold aJZ;have g:=AM x.1;simp only[HG,↓C2,HB,simprocAttr,g,Ab b,d];refine bW ?_;simp only[↓C2,HE,HB,simprocAttr,eq_false y,AH c];refine Au hW.put.put r (λM c1 c2=>?_);simp only[↓C2,HH,simprocAttr];exact c1.endc x.2.2
def aSv(G:List D->Option D)(w:Wb)(o:Oc)(q:Bool)(k2:List Tk)(gnl:Bool)(gone:List Bs)(d:G [.agg [.slice w.v.nlt [] (Ar w.v.ks)],.str w.a.ot]=some (.tup [.agg [.slice q [] (Ar k2)],.slice gnl [] (strsD gone),.int .i64 0]))(h0:kV o)(hg:gone≠[])(hl:gone.length<=900)(hs:∀s∈gone,s.length<=1000000)(z:gnl=true->gone=[]):W61 G w o []=some (.tup [],RZ o q k2 gnl gone,some ([11,28+10*gone.length])):=by
 refine Bb (λ_=>h0.ops) ⟨Qa rfl,λh=>Xc,λl h=>(by simp only[Qt]at h;subst h;exact⟨by cases gone with|nil=>exact absurd rfl hg|cons a r=>simp[RZ,Dl],U⟩),λi m fr t ha ba ja n0=>?_⟩;have b:S61 G 214=some (Ac G):=rfl;have f:S61 G 211=some (Ac FN):=rfl;have k:S61 G 210=some (wQ O0):=rfl;have ab:S61 G 145=some (wQ iY):=rfl;have hW:=Wt.start ha ba;unfold aJZ;have xx:=AM ha.1;have ta:=LC w (Dl (PW o q k2) gone) (.names gnl gone) (λh=>by
  simp only[Dl,QB,ZH]at h;exact absurd h.2 hg) (by show gone.length<=1000;omega) z
 simp only[Iv]at ta;have ua:(PW o q k2).nl=o.nl∧(PW o q k2).ops=[]:=⟨rfl,h0.ops⟩;simp only[HG,↓C2,HB,simprocAttr,xx,Ab b,d];refine bW ?_;simp only[HG,↓C2,HB,simprocAttr,xx,n0,AR];refine BX (n:=gone.length) (I:=λj x=>x.s 33= .slice gnl [] (strsD gone)∧x.s 34= .int .i64 gone.length∧x.s 35= .int .i64 (j:Int)∧x.s 0= .ptr i 0∧x.s 3= .slice gnl [] (strsD gone)∧x.c=31+10*j∧Wt i fr m o.nl t x.m w (Dl (PW o q k2) (gone.take j)) (if j=0 then t else [11,28+10*j]++fr)) (λj hj ih x g hI=>?_) (λx g hI=>?_) 0 (Qf _) _ _ ⟨rfl,rfl,rfl,rfl,rfl,rfl,?_⟩
 ·obtain⟨ma,ia,da⟩:=x;obtain⟨va,la,u,y,h3,hc,hw⟩:=hI;simp only at va la u y h3 hc hw;refine Af oO.eq_1 ?_;have ea:((j:Int)<(gone.length:Int))=True:=eq_true O;have oa:=nJ (j:=j);have ka:=DK (l:=gone) (j:=j) hj;have ra:IntKind.i64.wrap ((j:Int)+1)=((j+1:Nat):Int):=by rw[H9 O O];omega
  have ca:=C5 3 0 gone[j] (hs _ (QL hj));have wa:(Dl (PW o q k2) (gone.take j)).nl=true->(Dl (PW o q k2) (gone.take j)).ops=[]:=λh=>by
   simp only[Dl,QB,ZH]at h ⊢;rw[ua.2,h.2];rfl
  have qa:(Dl (PW o q k2) (gone.take j)).ops.length<=1000:=by simp[Dl,ua.2];omega
  have na:=D4 w (Dl (PW o q k2) (gone.take j)) 2 (Ao 3 gone[j] 0) [] wa qa;rw[aDU,←QR hj]at na;simp only[↓C2,HE,HB,simprocAttr,y,va,la,u,ea,oa,Qm,ka,Ab f,ca,AH k];refine Au hw na (λM c1 c2=>?_);have e:Nm (if j=0 then t else [11,28+10*j]++fr) ((da+1+3+3)::fr) (some [11])=(if j+1=0 then t else [11,28+10*(j+1)]++fr):=by
   rw[if_neg (Ql j)];show [11]++_::fr=_;rw[show da+1+3+3=28+10*(j+1)by omega];rfl
  rw[e]at c1;simp only[↓C2,HH,simprocAttr,u,ra];exact ih _ _ ⟨va,la,rfl,y,h3,Xa,c1⟩
 ·obtain⟨ma,ia,da⟩:=x;obtain⟨va,la,u,y,h3,hc,hw⟩:=hI;simp only at va la u y h3 hc hw;refine Af oO.eq_1 ?_;have ga:gone.length≠0:=λh=>hg (Zo.1 h)
  rw[Zn,if_neg ga]at hw;simp only[↓C2,HE,HB,simprocAttr,y,la,u,h3,Zb,AH ab];refine Au hw ta (λM c1 c2=>?_);simp only[↓C2,HH,simprocAttr];exact c1.endl (l:=[11,28+10*gone.length]) U
 ·simp only[Zf,zB,if_true];exact(hW.put.put.cellp (p:=29) (ys:=[.slice q [] (Ar k2)]) (o':=PW o q k2) (Qa rfl) rfl rfl rfl)
def vA(i q:List D->Option D):HD:=Aq [(143,Ac F25),(144,wQ Pz),(145,wQ iY),(146,wQ W56),(147,wQ W57),(148,wQ W58),(149,wQ W59),(150,wQ W60),(151,wQ (W61 i)),(152,wQ (W62 q)),(153,wQ bY),(154,wQ U_)]
def R19(i q:List D->Option D):List D->Option D:=RF (vA i q) aJ4 [.cell (some 9) 6] 88
def aY6{i q:List D->Option D}(u:Kq i 214)(y:Kq q 217):(Ac (R19 i q)).ok Qc 87:=An (Aj func87:Fn Qc 87 88 aJ4 [.cell (some 9) 6]) (Aa aYF (Aa Tm (Aa mZ (Aa mY (Aa aY2 (Aa aY1 (Aa aY0 (Aa aYZ (Aa (aYY u) (Aa (aYX y) (Aa aYW (Aa aYV Ad))))))))))))
def HM(v:Vw):Oc:=⟨[],false,[],true,[],v⟩
def My(o:Oc):List D:=[.str o.need,.bool o.li,.str o.rep,.slice o.nl [] (ED o.ops)]++It o.vw
def aP6{m:HF}{i:Id}{w:Wb}{o o':Oc}{k:Nat}{d:D}{ol:Option (List Nat)}(v:o.nl=true)(hi:∀l,i≠l++[k]):Ag (HN.app m (cF i w o [] [k] (d,o',ol))) i 0 30=some (Iy w o' (Nm [] [k] ol)):=by
 cases ol with
 |none=>exact Ib (CW _ _ _)
 |some l=>
  show Ag _ i 0 30=some (Iy w o' (l++[k]));rw[←Ib (m:=m) (i:=i) (CW w o' (l++[k]))];refine BN (λq z=>?_);have c:q.1=i:=FB z;show HN.app (m.put i 0 (Iy w o' (l++[k]))) (Bm 167 (l++[k]) (.slice o.nl [] (ED o.ops))) q.1 q.2=_;rw[Hb,c,if_neg (λe=>hi l e.1),if_neg (λe=>by rw[v]at e;cases e.1)]
def aH2{m:HF}{i j:Id}{w:Wb}{o o':Oc}{k x:Nat}{d:D}{ol:Option (List Nat)}(v:o.nl=true)(hi:∀l,j≠l++[k])(z:j≠i):HN.app m (cF i w o [] [k] (d,o',ol)) j x=m j x:=by
 cases ol with
 |none=>exact aA z
 |some l=>
  show HN.app (m.put i 0 (Iy w o' (l++[k]))) (Bm 167 (l++[k]) (.slice o.nl [] (ED o.ops))) j x=_;rw[Hb,if_neg (λe=>hi l e.1),if_neg (λe=>by rw[v]at e;cases e.1),aA z]
def VR{a k:Nat}(h:a≠k):∀l:List Nat,([a]:Id)≠l++[k]:=λl e=>h (by have:=congrArg ZP e;simpa using this)
def sW{i:Id}{m:HF}{w:Wb}{o o':Oc}{ca:List D}{d:D}{ol:Option (List Nat)}{F:Wb->Oc->List D->Option WY}{S:HD}{c k n:Nat}{ops l:List DOper}{s:Nat->D}{q:Option Nat}{K:Nat->(Nat->D)->HF->Prop}{g}
  (z:F w o ca=some (d,o',ol)) (r:WJ m i (w,o,[])) (v:o.nl=true) (hi:∀l,i≠l++[n])
  (h:∀M,Ag M i 0 30=some (Iy w o' (Nm [] [n] ol))->(∀j x,(∀l,j≠l++[n])->j≠i->M j x=m j x)->GF S [] c ops l k (Cb s q d) M K):
  H4 ((wQ F).ex (.ptr i 0::ca) m [n]) (λx=>dE S [] c ops l k s q m K x.1 x.2) g:=
 sV r z (h _ (aP6 v hi) (λ_ _ u y=>aH2 v u y))
inductive MO (G1 G2:List D->Option D) (v:Vw):Int->Oc->List D->(Wb->Oc->List D->Option WY)->Prop
 |o1:MO G1 G2 v 1 (HM v) [.agg (Iv (.state v.se))] iY
 |o2:MO G1 G2 v 2 {HM v with vw:={v with se:=false}} [] W56
 |o3:MO G1 G2 v 3 {HM v with vw:={v with se:=true}} [] W56
 |o4:MO G1 G2 v 4 (HM v) [] W57
 |o5:MO G1 G2 v 5 (HM v) [] W58
 |o6:MO G1 G2 v 6 (HM v) [] W59
 |o7:MO G1 G2 v 7 (HM v) [] W60
 |o8:MO G1 G2 v 8 (HM v) [] (W61 G1)
 |o17:MO G1 G2 v 17 (HM v) [] (W62 G2)
 |o9:MO G1 G2 v 9 (HM v) [] bY
 |o18:MO G1 G2 v 18 (HM v) [] bY
 |o10:MO G1 G2 v 10 (HM v) [] U_
 |o11:MO G1 G2 v 11 (HM v) [] U_
 |o12:MO G1 G2 v 12 (HM v) [] U_
 |o13:MO G1 G2 v 13 (HM v) [] U_
 |o14:MO G1 G2 v 14 (HM v) [] U_
 |o15:MO G1 G2 v 15 (HM v) [] U_
 |o16:MO G1 G2 v 16 (HM v) [] U_
def BR{G1 G2:List D->Option D}{v:Vw}{op:Int}{oc:Oc}{r:List D}{W:Wb->Oc->List D->Option WY}(hM:MO G1 G2 v op oc r W)(a:Ak)(k:Kn)(q:a.op=op)(s:F25 [IB v,Ic a]=some (.int .i64 0))(p:Oc)(ol:Option (List Nat))(hm:W ⟨v,a,k⟩ oc r=some (.tup [],p,ol)):R19 G1 G2 [IB v,Ic a,.agg (Im k)]=some (.agg (My p)):=by
 refine Am (Qa rfl) ?_;have b:vA G1 G2 143=some (Ac F25):=rfl;have z:vA G1 G2 145=some (wQ iY):=rfl;have e:vA G1 G2 146=some (wQ W56):=rfl;have h:vA G1 G2 147=some (wQ W57):=rfl;have i:vA G1 G2 148=some (wQ W58):=rfl;have j:vA G1 G2 149=some (wQ W59):=rfl;have c:vA G1 G2 150=some (wQ W60):=rfl;have l:vA G1 G2 151=some (wQ (W61 G1)):=rfl;have m:vA G1 G2 152=some (wQ (W62 G2)):=rfl;have g:vA G1 G2 153=some (wQ bY):=rfl;have o:vA G1 G2 154=some (wQ U_):=rfl;unfold aJ4;obtain⟨op,tk,w,ot,n,cas,fl,f,ns,u,d,rs,y⟩:=a;simp only at q;subst q;unfold IB Ic at *;unfold It Ia Im at *;cases hM<;>simp only[HG,↓C2,HB,simprocAttr,Ab b,s,AH z,AH e,AH h,AH i,AH j,AH c,AH l,AH m,AH g,AH o]
 all_goals
  refine sW hm ⟨by first|exact Ib rfl|exact(lU (show Ag _ [10] 0 30=some (Iy ⟨v,⟨_,tk,w,ot,n,cas,fl,f,ns,u,d,rs,y⟩,k⟩ (HM v) [])from Ib rfl) (Qa rfl)).trans rfl,rfl,λ_=>rfl⟩ rfl (VR V) (λM c1 c2=>?_);have xx:=AM c1;have t:∀x,M [3] x=_:=λx=>c2 [3] x (VR V) V
  simp only[HG,↓C2,HB,simprocAttr,xx,t]
  all_goals exact Y2
def aGn(i q:List D->Option D)(v:Vw)(a:Ak)(k:Kn)(e:Int)(y:e≠0)(s:F25 [IB v,Ic a]=some (.int .i64 e))(p:Oc)(ol:Option (List Nat))(j:Pz ⟨v,a,k⟩ (HM v) [.int .i64 e]=some (.tup [],p,ol)):R19 i q [IB v,Ic a,.agg (Im k)]=some (.agg (My p)):=by
 refine Am (Qa rfl) ?_;have b:vA i q 143=some (Ac F25):=rfl;have c:vA i q 144=some (wQ Pz):=rfl;unfold aJ4;obtain⟨op,m,r,o,n,cas,z,f,ns,u,d,rs,t⟩:=a;unfold IB Ic at *;unfold It Ia Im at *;simp only[HG,↓C2,HB,simprocAttr,Ab b,s,eq_false y,AH c];refine sW j ⟨Ib rfl,rfl,λ_=>rfl⟩ rfl (VR V) (λM c1 c2=>?_);have g:=AM c1;have w:∀x,M [3] x=_:=λx=>c2 [3] x (VR V) V
 simp only[HG,↓C2,HB,simprocAttr,g,w]
 all_goals exact Y2
def Ch(l:List Tk)(s:Bs):List Bs:=(l.filter λt=>decide (t.2.1=s)&&decide (t.1≠s)).map (·.1)
def Em(l:List Tk):Nat->Bs->List Bs
 |0,s=>[s]
 |f+1,s=>s::(Ch l s).flatMap (Em l f)
structure Ix (l:List Tk) (r:Bs->Nat):Prop where
 up:∀t∈l,r t.2.1<r t.1
 top:∀t∈l,r t.1<=l.length
 one:l.Pairwise λt u=>t.1≠u.1
def Ix.eq{l:List Tk}{r:Bs->Nat}(h:Ix l r){t u:Tk}(v:t∈l)(m:u∈l)(e:t.1=u.1):t=u:=by
 have q:=h.one;clear h;induction l with
 |nil=>cases v
 |cons a l ih=>
  rw[QM]at q;rcases Qn.1 v with ht'|ht'
  ·grind
  ·grind
inductive IG (l:List Tk) (s:Bs):Bs->Prop
 |refl:IG l s s
 |step (t:Tk):t∈l->IG l s t.2.1->IG l s t.1
def IG.trans{l:List Tk}{a b c:Bs}(h:IG l a b)(k:IG l b c):IG l a c:=by
 induction k with
 |refl=>exact h
 |step t v _ ih=>exact .step t v ih
def V4{l:List Tk}{s c:Bs}(h:c∈Ch l s):∃t∈l,t.2.1=s∧t.1=c∧c≠s:=by
 grind [Ch]
def L2{l:List Tk}:∀(f:Nat)(s x:Bs),x∈Em l f s->IG l s x
 |0,s,x,h=>by
  rw[Em,Zg]at h;subst h;exact .refl
 |f+1,s,x,h=>by
  rw[Em]at h;rcases Qn.1 h with rfl|h
  ·exact .refl
  ·obtain⟨c,d,p⟩:=Zp.1 h;obtain⟨t,v,rfl,rfl,_⟩:=V4 d;exact(IG.step t v .refl).trans (L2 f _ x p)
section
variable{l:List Tk}{r:Bs->Nat}(T:Ix l r)
include T
def iQ{s x:Bs}(h:IG l s x):r s<=r x:=by
 induction h with
 |refl=>exact Qe _
 |step t v _ ih=>exact QG ih (Nat.le_of_lt (T.up t v))
def aFL{a b x:Bs}(h:IG l a x)(k:IG l b x):IG l a b∨IG l b a:=by
 induction h with
 |refl=>exact .inr k
 |step t v q ih=>
  generalize e:t.1=y at k;cases k with
  |refl=>subst e;exact .inl (.step t v q)
  |step u m s=>
   have:=T.eq v m e;subst this;exact ih s
def Li{s c:Bs}(h:c∈Ch l s):r s<r c∧r c<=l.length:=by
 obtain⟨t,v,rfl,rfl,_⟩:=V4 h;exact⟨T.up t v,T.top t v⟩
theorem sQ{s a b:Bs}(x:a∈Ch l s)(hb:b∈Ch l s)(h:IG l a b):a=b:=by
 have q:=(Li T x).1;obtain⟨u,m,c,rfl,_⟩:=V4 hb;generalize e:u.1=y at h;cases h with
 |refl=>rfl
 |step t v f=>
  have:=T.eq v m e.symm;subst this;have:=iQ T f;rw[c]at this;omega
def nD(s:Bs):(Ch l s).Nodup:=by
 unfold Ch;have h:=(T.one.filter (λt=>decide (t.2.1=s)&&decide (t.1≠s)));rw[QN];exact List.pairwise_map.2 h
def UT:∀(f:Nat)(s:Bs),(Em l f s).Nodup
 |0,s=>by simp[Em]
 |f+1,s=>by
  rw[Em,ZK];refine⟨λh=>?_,?_⟩
  ·obtain⟨c,d,p⟩:=Zp.1 h;have:=iQ T (L2 f c s p);have:=(Li T d).1;omega
  ·rw[QN,List.pairwise_flatMap];refine⟨λc _=>QN.1 (UT f c),?_⟩;have g:=QN.1 (nD T s);refine List.Pairwise.imp_of_mem ?_ g;intro a b r q t x p y o e;subst e;rcases aFL T (L2 f a x p) (L2 f b x o)with h|h
   ·grind [sQ]
   ·grind [sQ]
omit T in
def P0{f:Nat}{s x:Bs}(h:x∈Em l f s):x∈s::l.map (·.1):=by
 have:=L2 f s x h;cases this with
 |refl=>exact Qo ..
 |step t v _=>exact Qu _ (Qp.2 ⟨t,v,rfl⟩)
omit T in
def Uo:∀(a b:List Bs),a.Nodup->(∀x∈a,x∈b)->a.length<=b.length
 |[],b,_,_=>Qf _
 |x::a,b,h,k=>by
  rw[ZK]at h;have p:=k x (Qo ..);have:=Uo a (b.erase x) h.2 (λy s=>by
   have c:=k y (Qu _ s);exact(List.mem_erase_of_ne (λ(e:y=x)=>h.1 (by rw[←e];exact s))).2 c)
  rw[List.length_erase_of_mem p]at this;have u:0<b.length:=List.length_pos_of_mem p;rw[Qb];omega
def tZ(f:Nat)(s:Bs):(Em l f s).length<=l.length+1:=by
 have:=Uo _ _ (UT T f s) (λx p=>P0 p);simpa using this
end
end Go.Vd
namespace Go.Proofs
open Go.Shelf
def bA:Go.Shelf.Ren:=⟨λ|190=>268|125=>252|258=>311|128=>304|129=>305|302=>333|303=>334|304=>335|305=>336|306=>337|307=>338|308=>339|309=>340|310=>341|333=>345|329=>325|330=>326|334=>346|335=>347|336=>113|344=>348|n=>n,λ|31=>23|9=>9|3=>3|46=>109|0=>0|51=>268|53=>185|4=>4|183=>347|182=>346|131=>103|5=>5|218=>375|222=>379|228=>389|229=>390|n=>n,λ|n=>n⟩
def aU:Go.Proofs.Lays.n190 Qc bA:={
 mixed:=Z
 f125:=func252.trans (congrArg some Z)
 f128:=func304.trans (congrArg some Z)
 f129:=func305.trans (congrArg some Z)
 f190:=func268.trans (congrArg some Z)
 f258:=func311.trans (congrArg some Z)
 f302:=func333.trans (congrArg some Z)
 f303:=func334.trans (congrArg some Z)
 f304:=func335.trans (congrArg some Z)
 f305:=func336.trans (congrArg some Z)
 f306:=func337.trans (congrArg some Z)
 f307:=func338.trans (congrArg some Z)
 f308:=func339.trans (congrArg some Z)
 f309:=func340.trans (congrArg some Z)
 f310:=func341.trans (congrArg some Z)
 f329:=func325.trans (congrArg some Z)
 f330:=func326.trans (congrArg some Z)
 f333:=func345.trans (congrArg some Z)
 f334:=func346.trans (congrArg some Z)
 f335:=func347.trans (congrArg some Z)
 f336:=func113.trans (congrArg some Z)
 f344:=func348.trans (congrArg some Z)
 t0:=underlying0
 a0:=isAgg0
 z0:=sizeOf0
 v0:=zeroValue0
 t3:=underlying3
 a3:=isAgg3
 z3:=sizeOf3
 v3:=zeroValue3
 t4:=underlying4
 a4:=isAgg4
 z4:=sizeOf4
 v4:=zeroValue4
 t5:=underlying5
 a5:=isAgg5
 z5:=sizeOf5
 v5:=zeroValue5
 t9:=underlying9
 a9:=isAgg9
 z9:=sizeOf9
 v9:=zeroValue9
 t31:=underlying23
 a31:=isAgg23
 z31:=sizeOf23
 v31:=zeroValue23
 t46:=underlying109
 a46:=isAgg109
 z46:=sizeOf109
 v46:=zeroValue109
 t51:=underlying268
 a51:=isAgg268
 z51:=sizeOf268
 v51:=zeroValue268
 t53:=underlying185
 a53:=isAgg185
 z53:=sizeOf185
 v53:=zeroValue185
 t131:=underlying103
 a131:=isAgg103
 z131:=sizeOf103
 v131:=zeroValue103
 t182:=underlying346
 a182:=isAgg346
 z182:=sizeOf346
 v182:=zeroValue346
 t183:=underlying347
 a183:=isAgg347
 z183:=sizeOf347
 v183:=zeroValue347
 t218:=underlying375
 a218:=isAgg375
 z218:=sizeOf375
 v218:=zeroValue375
 t222:=underlying379
 a222:=isAgg379
 z222:=sizeOf379
 v222:=zeroValue379
 t228:=underlying389
 a228:=isAgg389
 z228:=sizeOf389
 v228:=zeroValue389
 t229:=underlying390
 a229:=isAgg390
 z229:=sizeOf390
 v229:=zeroValue390}
def bB:Go.Shelf.Ren:=⟨λ|194=>272|n=>n,λ|31=>23|9=>9|3=>3|4=>4|0=>0|n=>n,λ|n=>n⟩
def aZ:Go.Proofs.Lays.n194 Qc bB:={
 mixed:=Z
 f194:=func272.trans (congrArg some Z)
 t0:=underlying0
 a0:=isAgg0
 z0:=sizeOf0
 v0:=zeroValue0
 t3:=underlying3
 a3:=isAgg3
 z3:=sizeOf3
 v3:=zeroValue3
 t4:=underlying4
 a4:=isAgg4
 z4:=sizeOf4
 v4:=zeroValue4
 t9:=underlying9
 a9:=isAgg9
 z9:=sizeOf9
 v9:=zeroValue9
 t31:=underlying23
 a31:=isAgg23
 z31:=sizeOf23
 v31:=zeroValue23}
end Go.Proofs
namespace Go.Vd
open Go.Proofs Go.RowKit
def Gh.base(G:Nat->Nat):Gh:={G:=G,G0:=G,dl:=λ_=>none,tb:=λ_=>none}
theorem GQ {P : Program} {f : FuncId} {F : List D → Option D} (p : ∃ fn, P.funcs[f]? = some fn ∧ fn.body.isSome = true ∧ (fn.name == "runtime.NumGoroutine") = false)
  (h : ∀ ds r, F ds = some r → ∀ (vs : List Value) (w : World) (G : Nat → Nat), vs.length = ds.length → (∀ (j : Nat) d v, ds[j]? = some d → vs[j]? = some v → Rep w (Gh.base G) d v) → (∀ b, w.heap.size ≤ b → G b = 0) →
   r.calmR = true ∧ Calls P f vs.toArray w fun e w' => ∃ v G', e = .returned v ∧ Below w.heap.size w w' ∧ (∀ b, w'.heap.size ≤ b → G' b = 0) ∧ (∀ b, b < w.heap.size → G' b = G b) ∧ Rep w' (Gh.base G') r v) : (Ac F).ok P f := by
 refine ⟨p, fun ds m m' fr _ => rfl, ?_⟩
 intro B w0 w m g fr ds vs r u hi t hl c z
 simp only [Ac] at z
 split at z
 ·rename_i n
  rw [Qx] at z
  obtain ⟨r', k, z⟩ := z
  simp only [QU] at z
  obtain ⟨rfl, rfl⟩ := z
  have y : ∀ (j : Nat) d v, (ds.map D.un)[j]? = some d → vs[j]? = some v → Rep w (Gh.base g.G) d v := by
   intro j d v o hv
   have s := Q9.1 n d (QS o)
   rw [Q7, Qx] at o
   obtain ⟨d', ra, rfl⟩ := o
   exact (c j d' v ra hv).un.calm_to s (fun _ _ => rfl) (fun _ => Qe _)
  obtain ⟨oa, s⟩ := h _ _ k vs w g.G (by rw [Qr]; exact hl) y hi.gz
  refine s.mono ?_
  rintro e w' ⟨v, G', rfl, q, hz, ho, x⟩
  have a : ∀ b, (g.glue w G').G b = G' b := by
   grind [Gh.glue]
  refine ⟨v, g.glue w G', rfl, hi.glue q hz, H5.glue hi.gz q, ?_, fun i hf _ => hf⟩
  exact x.calmR_to oa (fun _ _ => rfl) (fun b => by rw [a]; exact Qe _)
 ·cases z
def EE{P:Program}{f:FuncId}{F:List D->Option D}(na:(Ac F).ok P f){ds:List D}{r:D}(hF:F ds=some r)(n:ds.all D.calm=true)(z:ds.map D.un=ds){vs:List Value}{w:World}{G:Nat->Nat}
  (hl:vs.length=ds.length) (c:∀(j:Nat) d v,ds[j]?=some d->vs[j]?=some v->Rep w (Gh.base G) d v) (y:∀b,w.heap.size<=b->G b=0):
  Calls P f vs.toArray w λe w'=>∃v t,e= .returned v∧Below w.heap.size w w'∧Rep w' t r v:=by
 have g:HQ P w.heap.size w (λ_ _=>none) w (Gh.base G):=
  ⟨Below.refl _ _,Qe _,y,λ_ _=>rfl,λi b h=>XD,λi a b h=>XD,λi o d h=>Xd,λi e h=>Xd,λi a e q b x x' h=>Xd,λi s p h=>Xd,λi a s p m p' b x x' h=>Xd⟩
 refine(na.run (fr:=[0]) (ds:=ds) (r:=r) (u:=[]) g (λi _=>⟨λ_=>rfl,rfl,rfl⟩) hl c ?_).mono ?_
 ·grind [Ac]
 ·rintro e w' ⟨v,t,rfl,k⟩;exact⟨v,t,rfl,k.inv.below,k.rep⟩
def I7{P:Program}{f:FuncId}{F:List D->Option D}(na:(Ac F).ok P f){ds:List D}{r:D}(hF:F ds=some r)(y:ds.all (λd=>match d with| .str _| .int _ _| .bool _=>true|_=>false)=true)(w:World):
  Calls P f (ds.map plV).toArray w λe w'=>∃v t,e= .returned v∧Below w.heap.size w w'∧Rep w' t r v:=by
 have u:∀d∈ds,d.calm=true∧d.un=d∧∀w g,Rep w g d (plV d):=by
  intro d z;have:=Q9.1 y d z;cases d with
  |str s=>exact⟨rfl,rfl,λw g=> .str s⟩
  |int k n=>exact⟨rfl,rfl,λw g=> .int k n⟩
  |bool b=>exact⟨rfl,rfl,λw g=> .bool b⟩
  |_=>cases this
 refine EE na hF (Q9.2 λd z=>(u d z).1) ?_ (G:=λ_=>0) U (λj d v z i=>?_) (λ_ _=>rfl)
 ·conv=>rhs;rw[←List.map_id ds]
  exact List.map_congr_left λd z=>(u d z).2.1
 ·grind
def MI:∀l:List Bs,flat (strsD l)=strsD l
 |[]=>rfl
 |s::l=>by
  show(D.str s).cells++flat (strsD l)=_;rw[MI l];rfl
def lH{w:World}{g:Gh}{nl:Bool}{t:Id}{l:List Bs}{v:Value}(h:Rep w g (.slice nl t (strsD l)) v):
  ∃f c,v= .slice f l.length c∧∀j s,l[j]?=some s->∃a,f=some a∧w.cell? (a.add j)=some (encStr s):=by
 rcases h.slice_inv with ⟨_,b,rfl⟩|⟨_,ad,n,c,sz,e,rfl,x,d,r,p,u,q,i,m,r9⟩
 ·have:l=[]:=by cases l with|nil=>rfl|cons=>cases b
  subst this;exact⟨none,0,rfl,λj s h=>Xd⟩
 ·rw[AR]at x;subst x;refine⟨some ad,c,rfl,λj s z=>⟨ad,rfl,?_⟩⟩;have k:j<l.length:=(Qy.1 z).1;have o:sz=1:=(r (.str s) (Qp.2 ⟨s,QS z,rfl⟩)).symm;subst o;have y:=q j (.str s) (by rw[MI];simp[strsD,z]);rw[p j O];cases hv:e j<;>rw[hv]at y<;>cases y;rfl
def Ng{w:World}{B e n b c:Nat}{ys:List Bs}{g:Gh}(h:w.ownsRow B e 1 (.slice (some ⟨b,0,none⟩) n c) n (ys.map encStr))(q:n<=g.G b):Rep w g (.slice false [] (strsD ys)) (.slice (some ⟨b,0,none⟩) n c):=by
 have v:ys.length=n:=by simpa using h.1
 have p:n<=c:=by
  rcases h.2 with ⟨o,_⟩|⟨t,cap,cur,r,_,_,a,_⟩
  ·cases o
  ·cases r;exact a
 refine .slice [] _ ⟨b,0,none⟩ n c 1 (λj=>encStr (ys.getD j [])) (by rw[AR,v]) p (λd z=>?_) (λj u=>?_) (λj u=>rfl) (λj d z=>?_) (λ_=>Xa) (λh=>absurd rfl h) (λd z=>?_)
 ·obtain⟨s,_,rfl⟩:=Qp.1 z;rfl
 ·have ta:j<ys.length:=by omega
  exact h.cells rfl j _ (by simp[Qz,ta])
 ·rw[MI]at z;simp only[strsD,Q7,Qx]at z;obtain⟨s,k,rfl⟩:=z;have:ys.getD j []=s:=by simp[Qz,k]
  rw[this];exact .str s
 ·obtain⟨s,_,rfl⟩:=Qp.1 z;rfl
end Go.Vd
namespace Go.Vd
open Go.Proofs Go.RowKit Go.Sort Go.Shelf
def GT(z:Bs)(l:List Bs):List Bs:=l.filterMap λs=>if(Cv s z).2=true then some (Cv s z).1 else none
def Ux(z s:Bs)(l:List Bs):GT z (s::l)=if(Cv s z).2=true then(Cv s z).1::GT z l else GT z l:=by
 grind [GT]
def aPJ(w:World)(a:List Bs)(e:Ending)(w':World):Prop:=
 ∃v,e= .returned v∧Below w.heap.size w w'∧((v= .slice none 0 0∧a=[])∨(a≠[]∧∃g cap,v= .slice (some ⟨g,0,none⟩) (Lib.compact (a.mergeSort λx y=>decide (x<=y))).length cap∧w.heap.size<=g∧g<w'.heap.size∧
  w'.ownsRow w.heap.size 9 1 v (Lib.compact (a.mergeSort λx y=>decide (x<=y))).length ((Lib.compact (a.mergeSort λx y=>decide (x<=y))).map encStr)))
def aC6{w w1:World}{g cap n nn q:Nat}{os:Array Obj}{a:List (List UInt8)}(i:w1.ownsRow w.heap.size 9 1 (.slice (some ⟨g,0,none⟩) n cap) n (a.map encStr))(f:Below w.heap.size w w1)(u:w.heap.size<=g)(r:a.length=n)(p:a≠[]):
  aPJ w a (.returned (.slice (some ⟨g,0,none⟩) (Lib.compact (a.mergeSort λx y=>decide (x<=y))).length cap))
   (putRow encStr (Sort.ahead (grow (putRow encStr (Sort.ahead w1 nn) g 0 (a.mergeSort λx y=>decide (x<=y)).toArray) os) q) g 0 (Lib.compact (a.mergeSort λx y=>decide (x<=y))++Zy (n-(Lib.compact (a.mergeSort λx y=>decide (x<=y))).length) []).toArray):=by
 have ma:(a.mergeSort λx y=>decide (x<=y)).length=a.length:=Qs a;have c:=Lib.compact_length_le (a.mergeSort λx y=>decide (x<=y));subst r;rcases i.2 with ⟨b,_⟩|⟨t,qa,cur,e,s,hb,h1,v,o,m⟩
 ·cases b
 cases e;have hs:=ownsRow_sorted (n:=nn) (os:=os) (ts:=a.mergeSort λx y=>decide (x<=y)) ma s hb h1 v o;have d:=Lib.ownsRow_putRow (q:=q) (k:=(Lib.compact (a.mergeSort λx y=>decide (x<=y))).length) (ys:=Lib.compact (a.mergeSort λx y=>decide (x<=y))++Zy (a.length-(Lib.compact (a.mergeSort λx y=>decide (x<=y))).length) []) hs Xb O;rw[List.take_left]at d;exact⟨_,rfl,Lib.below_putRow (f.grown (grownBy_sorted _) f.size (λj z=>by cases z;exact s)) u,.inr ⟨p,g,cap,rfl,u,(d.lt g rfl).2,d⟩⟩
def nK:(Tryz.prog.info? 9).map (λi=>(i.zero,i.size,i.bytes))=some (some (.string ByteArray.empty),1,16):=Z
def mC(v:Value):v.ownBlock=none∨v.ownBlock≠none:=Classical.em _
def Ci{B:Nat}{w w':World}(h:Below B w w')(x:w.heap.size<=B)(row:Option Nat)(j:w.heap.size<=w'.heap.size):w.grownBy w' row:=⟨h.os,h.tape,h.output,j,λk g _=>h.block k O⟩
def Fc{w c:World}{a:Addr}{v:Value}(f:Below w.heap.size w c)(h:w.cell? a=some v):c.cell? a=some v:=(f.cell (World.block_lt_of_cell? _ _ h)).trans h
def oB{α:Type}{l:List α}{j:Nat}{x:α}(h:l[j]?=some x):l.drop j=x::l.drop (j+1):=by
 obtain⟨u,rfl⟩:=Qy.1 h;exact List.drop_eq_getElem_cons u
def aYo(w:World)(aa:Bs)(l:List Bs)(ao:Option Addr)(c:Nat)(hl:l.length<=2000)
  (ha:∀j s,l[j]?=some s->∃a,ao=some a∧w.cell? (a.add j)=some (encStr s))
  (r:∀s∈l,∀w,Calls Qc 271 #[encStr s,encStr aa] w λe w'=>e= .returned (.tuple #[encStr (Cv s aa).1,.bool (Cv s aa).2])∧Below w.heap.size w w'):
  Calls Qc 217 #[encStr aa,.slice ao l.length c] w (aPJ w (GT aa l)):=by
 obtain⟨i0,hi,hx⟩:=Qx.1 nK;simp only[QU]at hx;obtain⟨oa,la,pa⟩:=hx;have HC:Aside (∀j s,l[j]?=some s->∃a,ao=some a∧w.cell? (a.add j)=some (encStr s)):=ha;have H2:Aside (∀s∈l,∀w,Calls Qc 271 #[encStr s,encStr aa] w λe w'=>e= .returned (.tuple #[encStr (Cv s aa).1,.bool (Cv s aa).2])∧Below w.heap.size w w'):=r;clear ha r;generalize xa:encStr aa=vt at *;generalize hn:l.length=n at *
 go_enter func217,ntmps217
 go_wp2_with fail
 go_loopg [5,12] n (λg s5 v wx=>∃(k:Nat)(ks:List Bs),k+g=n∧v= .int .i64 k∧Aside (ks++GT aa (l.drop k)=GT aa l)∧ks.length<=k∧
  wx.ownsRow w.heap.size 9 1 s5 ks.length (ks.map encStr)∧Aside (s5= .slice none 0 0↔ks=[])∧Below w.heap.size w wx)
 case atStart=>exact⟨0,[],O,rfl,rfl,Qe _,World.ownsRow_nil _ _ _ _,ZU (λ_=>rfl) (λ_=>rfl),Below.refl _ _⟩
 case round=>
  obtain⟨k,ks,va,rfl,HI,ra,ba,fa,ga⟩:=hrel;cases gk with
  |zero=>
   have ia:¬((k:Int)<(n:Int)):=O
   have HK:Aside (ks=GT aa l):=by
    have:=HI.out;rw[Q8 O]at this;show ks=_;simpa[GT]using this
   by_cases ua:ks=[]
   ·subst ua;have e0:u5= .slice none 0 0:=fa.out.2 rfl;subst e0;clear fa
    go_wp2_with (first
     |(go_at_call 268;refine(Any.slices_Sort_string_none aU none 0 _).mono ?_;rintro e w2 ⟨rfl,rfl⟩)
     |(go_at_call 272;refine(Any.slices_Compact_string_empty aZ none 0 _).mono ?_;rintro e w3 ⟨rfl,rfl⟩))
    go_ret
    exact⟨_,rfl,ga,.inl ⟨rfl,HK.out.symm⟩⟩
   ·have ja:u5≠ .slice none 0 0:=λe=>ua (fa.out.1 e)
    obtain⟨g0,h,rfl,u,qa,ta,eb,ca,hH⟩:=Lib.holds_of_ownsRow ba ja;have m:Calls Qc 268 #[.slice (some ⟨g0,0,none⟩) ks.length h] wr λe w'=>e= .returned (.tuple #[])∧∃n os,w'=grow (putRow encStr (Sort.ahead wr n) g0 0 (ks.mergeSort λx y=>decide (x<=y)).toArray) os:=Any.slices_Sort_string aU g0 0 h ks wr hH qa O
    have o:∀nn os,Calls Qc 272 #[.slice (some ⟨g0,0,none⟩) ks.length h] (grow (putRow encStr (Sort.ahead wr nn) g0 0 (ks.mergeSort λx y=>decide (x<=y)).toArray) os) λe w'=>
      e= .returned (.slice (some ⟨g0,0,none⟩) (Lib.compact (ks.mergeSort λx y=>decide (x<=y))).length h)∧∃q,w'=putRow encStr (Sort.ahead (grow (putRow encStr (Sort.ahead wr nn) g0 0 (ks.mergeSort λx y=>decide (x<=y)).toArray) os) q) g0 0 (Lib.compact (ks.mergeSort λx y=>decide (x<=y))++Zy (ks.length-(Lib.compact (ks.mergeSort λx y=>decide (x<=y))).length) []).toArray:=λnn os=>by
     have ma:(ks.mergeSort λx y=>decide (x<=y)).length=ks.length:=Qs ks;have wa:Go.Sort.Holds encStr (grow (putRow encStr (Sort.ahead wr nn) g0 0 (ks.mergeSort λx y=>decide (x<=y)).toArray) os) g0 0 (ks.mergeSort λx y=>decide (x<=y)).toArray:=
      holds_grow encStr _ os g0 0 _ (by simpa[putRow,mapBlock,Sort.ahead]using qa) (holds_putRow encStr _ g0 0 _ _ (holds_ahead encStr wr nn g0 0 _ hH) U)
     have:=Any.slices_Compact_string aZ g0 0 h (ks.mergeSort λx y=>decide (x<=y)) _ wa O O;rw[ma]at this;exact this
    have X:Aside (wr.ownsRow w.heap.size 9 1 (.slice (some ⟨g0,0,none⟩) ks.length h) ks.length (ks.map encStr)∧Below w.heap.size w wr):=⟨ba,ga⟩;clear ba ga hH fa ja
    go_wp2_with (first
     |(go_at_call 268;refine m.mono ?_;rintro e w2 ⟨rfl,nn,os,rfl⟩)
     |(go_at_call 272;refine(o _ _).mono ?_;rintro e w3 ⟨rfl,q,rfl⟩))
    go_ret
    rw[←HK.out];exact aC6 X.out.1 X.out.2 u rfl ua
  |succ g=>
   have ia:(k:Int)<(n:Int):=O
   obtain⟨s,hs⟩:∃s,l[k]?=some s:=⟨_,Qd O⟩;obtain⟨a,rfl,ea⟩:=HC.out k s hs;have z:wr.cell? (a.add k)=some (encStr s):=Fc ga ea;have hd:Aside (l.drop k=s::l.drop (k+1)):=oB hs;have c2:=H2.out s (QS hs) wr;clear hs ea;have ka:=ga.size;generalize t:encStr s=vs at *;cases hb:(Cv s aa).2 with
   |true=>
    rw[hb]at c2;generalize hp:(Cv s aa).1=p at c2;have d:Aside (GT aa (l.drop k)=p::GT aa (l.drop (k+1))):=by
     show _=_;rw[hd.out,Ux,if_pos hb,hp]
    clear hp hb
    go_wp2_with (first
     |(go_at_call 271;refine c2.mono ?_;rintro e w2 ⟨rfl,na⟩;have sa:=na.size;have b:=ba.kept (Ci na (Qe _) none sa) (mC _))
     |(at_builtin;refine wpList_append_own _ rfl _ _ 23 rfl w.heap.size 9 i0 (.string ByteArray.empty) 1 16 underlying23 hi oa la pa rfl V _ _ _ rfl (b.alloc _) ⟨w2.heap.size,0,none⟩ 1 1 [encStr p] rfl rfl (cell_one_new _ _ _) (λx hx=>Yi) Xq O Xb ?_;intro v' w3 da f i))
    go_roundg g
    case measure=>omega
    case rel=>exact⟨k+1,ks++[p],O,Xz,Yj,Xb,by simpa using da,by show _↔_;rw[i];simp,
      ((ga.grown (Ci na (Qe _) none sa) ka (λj hj=>by cases hj)).alloc O _).grown f Xb (λj hj=>(b.lt j hj).1)⟩
   |false=>
    rw[hb]at c2;generalize hp:(Cv s aa).1=p at c2;have d:Aside (GT aa (l.drop k)=GT aa (l.drop (k+1))):=by
     show _=_;rw[hd.out,Ux,if_neg (by rw[hb];decide)]
    clear hp hb
    go_wp2_with (first
     |(go_at_call 271;refine c2.mono ?_;rintro e w2 ⟨rfl,na⟩;have sa:=na.size;have b:=ba.kept (Ci na (Qe _) none sa) (mC _)))
    go_roundg g
    case measure=>omega
    case rel=>exact⟨k+1,ks,O,Xz,X0,O,b,fa,ga.grown (Ci na (Qe _) none sa) ka (λj hj=>by cases hj)⟩
abbrev pB(b:Nat):Value:= .pointer (some ⟨b,0,none⟩)
section
variable(w0:World)(bg bs bt b4:Nat)(l:List Tk)(ao:Option Addr)(c:Nat)
structure HY (w:World) (vg:Value) (xs:List Bs):Prop where
 own:w.ownsRow w0.heap.size 9 1 vg xs.length (xs.map encStr)
 g:w.heap[bg]?=some (.cells #[vg] 23 (0,0))
 s:w.heap[bs]?=some (.cells #[.slice ao l.length c] 31 (0,0))
 t:w.heap[bt]?=some (.cells #[.func (.func 267) #[] #[pB bg,pB bs,pB bt]] 325 (0,0))
 nl:vg= .slice none 0 0↔xs=[]
 r:w.heap[b4]?=some (.cells #[.slice none 0 0] 31 (0,0))
 below:Below w0.heap.size w0 w
theorem Ov{w:World}{B e j n b:Nat}{v:Value}{xs:List Value}{cs:Array Value}{T:TypeId}{fr:Nat×Nat}(h:w.ownsRow B e j v n xs)(f:w.heap[b]?=some (.cells cs T fr))(d:T≠e):some b≠v.ownBlock:=by
 rcases h.2 with ⟨rfl,_⟩|⟨g,cap,cur,rfl,_,a,_⟩
 ·intro h;cases h
 ·intro h;simp only[Value.ownBlock,Qt]at h;subst h;rw[f]at a;simp only[Qt,Obj.cells.injEq]at a;exact d a.2.1
variable{w0 bg bs bt b4 l ao c}
def HY.app{w w3:World}{vg v':Value}{xs:List Bs}{o:Obj}{name:Bs}(u:w0.heap.size<=bg)(T:HY w0 bg bs bt b4 l ao c w vg xs)(ka:w3.ownsRow w0.heap.size 9 1 v' (xs.length+1) (xs.map encStr++[encStr name]))(n:(w.alloc o).grownBy w3 vg.ownBlock)(na:v'= .slice none 0 0↔vg= .slice none 0 0∧(1:Nat)=0):
  ∃g cap,v'= .slice (some ⟨g,0,none⟩) (xs.length+1) cap∧w3.cell? ⟨bg,0,none⟩=some vg∧w3.frozen? ⟨bg,0,none⟩=false∧(w3.setCell ⟨bg,0,none⟩ v').cell? ⟨bs,0,none⟩=some (.slice ao l.length c)∧HY w0 bg bs bt b4 l ao c (w3.setCell ⟨bg,0,none⟩ v') v' (xs++[name]):=by
 have hl:∀{b:Nat} {cs:Array Value} {T:TypeId},w.heap[b]?=some (.cells cs T (0,0))->T≠9->w3.heap[b]?=some (.cells cs T (0,0)):=λ{b cs Ty} f hT=>by
  have x:b<w.heap.size:=(Qv.1 f).1;rw[n.block b Xb (Ov T.own f hT),heap_alloc_old w o x];exact f
 have g1:=hl T.g V;have s1:=hl T.s V;have t1:=hl T.t V;have r1:=hl T.r V;have p:v'≠ .slice none 0 0:=λe=>by have:=(na.1 e).2;omega
 rcases ka.2 with ⟨h0,_⟩|⟨g,cap,cur,i,j,f,q,y,v,h4⟩
 ·exact absurd h0 p
 have a:g≠bg:=λe=>by
  subst e;rw[g1]at f;simp only[Qt,Obj.cells.injEq]at f;exact absurd f.2.1 V
 have z:∀k,k≠bg->(w3.setCell ⟨bg,0,none⟩ v').heap[k]?=w3.heap[k]?:=λk m=>heap_setCell_other w3 ⟨bg,0,none⟩ k _ m
 have ta:bs≠bg:=λe=>by have:=T.s;rw[e,T.g]at this;simp at this
 have ua:bt≠bg:=λe=>by have:=T.t;rw[e,T.g]at this;simp at this
 have d:b4≠bg:=λe=>by have:=T.r;rw[e,T.g]at this;simp at this
 have s2:(w3.setCell ⟨bg,0,none⟩ v').heap[bs]?=some (.cells #[.slice ao l.length c] 31 (0,0)):=(z bs ta).trans s1;refine⟨g,cap,i,by simp[World.cell?,g1],by simp[World.frozen?,g1],by simp[World.cell?,s2],⟨?_,?_,s2,(z bt ua).trans t1,⟨λe=>absurd e p,λe=>by simp at e⟩,(z b4 d).trans r1,?_⟩⟩
 ·refine⟨U,.inr ⟨g,cap,cur,by rw[i];simp,j,?_,by simpa using q,y,v,by simpa using h4⟩⟩;rw[z g a];exact f
 ·rw[heap_setCell_same w3 bg 0 _ _ _ g1];rfl
 ·exact((T.below.alloc T.below.size o).grown n (by have:=T.below.size;simp;omega) (λk m=>(T.own.lt k m).1)).setCell u _
def aFR(a:Addr)(n j:Nat):(a.add n).add j=a.add (n+j):=by
 unfold Addr.add;by_cases u:n=0
 ·subst u;simp
 ·grind
def iZ(w0:World)(G:Nat->Nat)(l:List Tk)(f:Option Addr):Prop:=∀j k,l[j]?=some k->∃a c y q,f=some a∧w0.cell? (a.add (j*3))=some (encStr k.1)∧w0.cell? (a.add (j*3+1))=some (encStr k.2.1)∧w0.cell? (a.add (j*3+2))=some (.slice c y q)∧Rep w0 (Gh.base G) (.slice k.2.2.1 [] (As k.2.2.2)) (.slice c y q)
def iZ.load{G:Nat->Nat}{w:World}{j:Nat}{k:Tk}(h:iZ w0 G l ao)(f:Below w0.heap.size w0 w)(z:l[j]?=some k):∃a c y q,ao=some a∧w.cell? (a.add (j*3))=some (encStr k.1)∧w.cell? ⟨(a.add (j*3)).block,(a.add (j*3)).off+1,none⟩=some (encStr k.2.1)∧w.cell? ⟨(a.add (j*3)).block,(a.add (j*3)).off+2,none⟩=some (.slice c y q)∧Rep w0 (Gh.base G) (.slice k.2.2.1 [] (As k.2.2.2)) (.slice c y q):=by
 obtain⟨a,c,y,q,e,c1,c2,t,p⟩:=h j k z;have m:∀i,i≠0->(⟨(a.add (j*3)).block,(a.add (j*3)).off+i,none⟩:Addr)=a.add (j*3+i):=λi hi=>by
  rw[←aFR];generalize a.add (j*3)=b;unfold Addr.add;rw[if_neg hi]
 refine⟨a,c,y,q,e,Fc f c1,?_,?_,p⟩
 ·rw[m 1 V];exact Fc f c2
 ·rw[m 2 V];exact Fc f t
def MG(l:List Tk)(t:Tk)(s:Bs):Ch (t::l) s=if t.2.1=s∧t.1≠s then t.1::Ch l s else Ch l s:=by
 grind [Ch]
def HY.alloc{w:World}{q:Value}{xs:List Bs}(T:HY w0 bg bs bt b4 l ao c w q xs)(o:Obj):HY w0 bg bs bt b4 l ao c (w.alloc o) q xs:=
 have hl:∀{b:Nat} {x:Obj},w.heap[b]?=some x->(w.alloc o).heap[b]?=some x:=λ{b x} h=>by
  rw[heap_alloc_old w o (Qv.1 h).1];exact h
 ⟨T.own.alloc o,hl T.g,hl T.s,hl T.t,T.nl,hl T.r,T.below.alloc T.below.size o⟩
def aTG(hg:w0.heap.size<=bg)(hl:l.length<=1000){G:Nat->Nat}(hT:iZ w0 G l ao)(name:Bs)(j:Bs->List Bs)(w:World)(vg:Value)(xs:List Bs)
  (b:∀t∈l,t.2.1=name->t.1≠name->∀w vg ys,HY w0 bg bs bt b4 l ao c w vg ys->ys.length+(j t.1).length<=1000->Calls Qc 267 #[encStr t.1,pB bg,pB bs,pB bt] w λe w'=>e= .returned (.tuple #[])∧∃m,HY w0 bg bs bt b4 l ao c w' m (ys++j t.1))
  (r:xs.length+1+((Ch l name).flatMap j).length<=1000) (T:HY w0 bg bs bt b4 l ao c w vg xs):
  Calls Qc 267 #[encStr name,pB bg,pB bs,pB bt] w λe w'=>e= .returned (.tuple #[])∧∃m,HY w0 bg bs bt b4 l ao c w' m (xs++name::(Ch l name).flatMap j):=by
 obtain⟨i0,hi,hx⟩:=Qx.1 nK;simp only[QU]at hx;obtain⟨oa,la,q⟩:=hx;have C1:w.cell? ⟨bg,0,none⟩=some vg:=by simp[World.cell?,T.g]
 have C3:w.frozen? ⟨bg,0,none⟩=false:=by simp[World.frozen?,T.g]
 have ka:xs.length<1000:=O
 have za:w0.heap.size<=w.heap.size:=T.below.size;have TT:Aside (HY w0 bg bs bt b4 l ao c w vg xs):=T;have HT:Aside (iZ w0 G l ao):=hT;have HS:Aside (∀t∈l,t.2.1=name->t.1≠name->∀w vg ys,HY w0 bg bs bt b4 l ao c w vg ys->ys.length+(j t.1).length<=1000->Calls Qc 267 #[encStr t.1,pB bg,pB bs,pB bt] w λe w'=>e= .returned (.tuple #[])∧∃m,HY w0 bg bs bt b4 l ao c w' m (ys++j t.1)):=b;have HL:Aside (xs.length+1+((Ch l name).flatMap j).length<=1000):=r;have s:=T.own;clear T r b hT
 go_enter func267,ntmps267
 go_wp2_with (first
  |(
   at_builtin;refine wpList_append_own _ rfl _ _ 23 rfl w0.heap.size 9 i0 (.string ByteArray.empty) 1 16 underlying23 hi oa la q rfl V _ _ _ rfl (s.alloc _) ⟨w.heap.size,0,none⟩ 1 1 [encStr name] rfl rfl (cell_one_new _ _ _) (λx hx=>Yi) Xq O Xb ?_;intro v' w3 da f i
   obtain⟨g2,n,rfl,D1,D2,D3,T2⟩:=TT.out.app hg da f i;have T3:Aside (HY w0 bg bs bt b4 l ao c (w3.setCell ⟨bg,0,none⟩ (.slice (some ⟨g2,0,none⟩) (xs.length+1) n)) (.slice (some ⟨g2,0,none⟩) (xs.length+1) n) (xs++[name])):=T2;clear i da f T2))
 go_loopg [14] l.length (λg p wx=>∃(k:Nat)(ys:List Bs)(vy:Value),k+g=l.length∧p= .int .i64 k∧Aside (ys++(Ch (l.drop k) name).flatMap j=xs++name::(Ch l name).flatMap j)∧Aside (HY w0 bg bs bt b4 l ao c wx vy ys))
 case atStart=>exact⟨0,xs++[name],_,O,rfl,by show _=_;simp,T3⟩
 case round=>
  obtain⟨k,ys,vy,va,rfl,HI,TY⟩:=hrel;cases gk with
  |zero=>
   have ia:¬((k:Int)<(l.length:Int)):=O
   go_wp2_with fail
   go_end0
   refine⟨rfl,vy,?_⟩;have:=HI.out;rw[Q8 O]at this;rw[←this];simpa[Ch]using TY.out
  |succ g=>
   have ia:(k:Int)<(l.length:Int):=O
   obtain⟨t,hs⟩:∃t,l[k]?=some t:=⟨_,Qd O⟩;obtain⟨a,ro,rn,rc,rfl,c1,c2,c3,_⟩:=HT.out.load TY.out.below hs;have hd:Aside (l.drop k=t::l.drop (k+1)):=oB hs;have ua:t∈l:=QS hs;by_cases u:t.2.1=name
   ·by_cases y:t.1=name
    ·have d:Aside (Ch (l.drop k) name=Ch (l.drop (k+1)) name):=by
      show _=_;rw[hd.out,MG,if_neg (λh=>h.2 y)]
     go_wp2_with fail
     go_roundg g
     case measure=>omega
     case rel=>exact⟨k+1,ys,vy,O,Xz,X0,TY.out.alloc _⟩
    ·have d:Aside (Ch (l.drop k) name=t.1::Ch (l.drop (k+1)) name):=by
      show _=_;rw[hd.out,MG,if_pos ⟨u,y⟩]
     have db:∀o,Calls Qc 267 #[encStr t.1,pB bg,pB bs,pB bt] (wr.alloc o) λe w'=>e= .returned (.tuple #[])∧∃m,HY w0 bg bs bt b4 l (some a) c w' m (ys++j t.1):=λo=>
      HS.out t ua u y _ vy ys (TY.out.alloc o) (by
       have v:=congrArg ZT HI.out;rw[d.out]at v;have h4:=HL.out;simp only[ZF,Qh,Qb]at v;omega)
     have ea:(t.1==name)=false:=by simpa using y
     have F:∀o,(wr.alloc o).cell? ⟨bt,0,none⟩=some (.func (.func 267) #[] #[pB bg,pB bs,pB bt]):=λo=>by simp[World.cell?,(TY.out.alloc o).t]
     go_wp2_with (go_at_call 267;refine(db _).mono ?_;rintro e w' ⟨rfl,vz,TZ⟩)
     go_roundg g
     case measure=>omega
     case rel=>exact⟨k+1,ys++j t.1,vz,O,Xz,Yj,TZ⟩
   ·have d:Aside (Ch (l.drop k) name=Ch (l.drop (k+1)) name):=by
     show _=_;rw[hd.out,MG,if_neg (λh=>u h.1)]
    have z:(t.2.1==name)=false:=XL
    go_wp2_with fail
    go_roundg g
    case measure=>omega
    case rel=>exact⟨k+1,ys,vy,O,Xz,X0,TY.out.alloc _⟩
def HY.kept{w w':World}{q:Value}{xs:List Bs}{row:Option Nat}(T:HY w0 bg bs bt b4 l ao c w q xs)(h:w.grownBy w' row)(i:∀(b:Nat) cs j,w.heap[b]?=some (.cells cs j (0,0))->j≠107->some b≠row)(x:∀k,row=some k->w0.heap.size<=k):HY w0 bg bs bt b4 l ao c w' q xs:=by
 have hl:∀{b:Nat} {cs:Array Value} {T:TypeId},w.heap[b]?=some (.cells cs T (0,0))->T≠107->w'.heap[b]?=some (.cells cs T (0,0)):=λ{b cs j} f d=>by
  rw[h.block b (Qv.1 f).1 (i b cs j f d)];exact f
 refine⟨T.own.kept h ?_,hl T.g V,hl T.s V,hl T.t V,T.nl,hl T.r V,T.below.grown h T.below.size x⟩;rcases T.own.2 with ⟨rfl,_⟩|⟨g,cap,cur,rfl,_,f,_⟩
 ·exact .inl rfl
 ·exact .inr (i g cur 9 f V)
def HY.sorted{w:World}{vg:Value}{xs:List Bs}(T:HY w0 bg bs bt b4 l ao c w vg xs)(p:xs≠[]):∃g cap,vg= .slice (some ⟨g,0,none⟩) xs.length cap∧g<w.heap.size∧Go.Sort.Holds encStr w g 0 xs.toArray∧
  ∀nn os,HY w0 bg bs bt b4 l ao c (grow (putRow encStr (Sort.ahead w nn) g 0 (xs.mergeSort λx y=>decide (x<=y)).toArray) os) vg (xs.mergeSort λx y=>decide (x<=y)):=by
 have ga:vg≠ .slice none 0 0:=λe=>p (T.nl.1 e)
 have ma:(xs.mergeSort λx y=>decide (x<=y)).length=xs.length:=Qs xs;rcases T.own.2 with ⟨h0,_⟩|⟨g,cap,cur,i,j,q,u,f,o,a⟩
 ·exact absurd h0 ga
 refine⟨g,cap,i,(Qv.1 q).1,Go.holds_of_block q (by simpa using a),λnn os=>?_⟩;have z:=Go.grownBy_sorted (w:=w) (g:=g) (n:=nn) (os:=os) (xs.mergeSort λx y=>decide (x<=y)).toArray;have hl:∀{b:Nat} {cs:Array Value} {T:TypeId},w.heap[b]?=some (.cells cs T (0,0))->T≠9->(grow (putRow encStr (Sort.ahead w nn) g 0 (xs.mergeSort λx y=>decide (x<=y)).toArray) os).heap[b]?=some (.cells cs T (0,0)):=λ{b cs Ty} d v=>by
  rw[z.block b (Qv.1 d).1 (λe=>by
   have:=Ov T.own d v;rw[i]at this;exact this e)];exact d
 refine⟨?_,hl T.g V,hl T.s V,hl T.t V,⟨λe=>absurd e ga,λe=>?_⟩,hl T.r V,T.below.grown z T.below.size (λk m=>by cases m;exact j)⟩
 ·rw[i,ma];exact Go.ownsRow_sorted ma j q u f o
 ·grind
def aMa(z:w0.heap.size<=bg)(hl:l.length<=1000){G:Nat->Nat}(d:iZ w0 G l ao){r:Bs->Nat}(T:Ix l r):∀(f:Nat)(name:Bs),l.length<=r name+f->∀(w:World)(q:Value)(xs:List Bs),HY w0 bg bs bt b4 l ao c w q xs->xs.length+(Em l f name).length<=1000->
  Calls Qc 267 #[encStr name,pB bg,pB bs,pB bt] w λe w'=>e= .returned (.tuple #[])∧∃m,HY w0 bg bs bt b4 l ao c w' m (xs++Em l f name)
 |0,name,hr,w,q,xs,h,hlen=>by
  have g:Ch l name=[]:=by
   cases hc:Ch l name with
   |nil=>rfl
   |cons a t=>have:=Li T (show a∈Ch l name by rw[hc];exact Qo ..);omega
  have:=aTG z hl d name (λ_=>[]) w q xs (λt v u y=>by
   have o:=T.up t v;have j:=T.top t v;rw[u]at o;omega) (by rw[g];simpa[Em]using hlen) h
  rw[g]at this;exact this
 |f+1,name,hr,w,q,xs,h,hlen=>by
  refine aTG z hl d name (Em l f) w q xs (λt v u y w q ys s b=>?_) (by simp only[Em,Qb]at hlen;omega) h;have o:=T.up t v;rw[u]at o;exact aMa z hl d T f t.1 O w q ys s b
end
def aJH:(Tryz.prog.info? 107).map (λi=>(i.zero,i.size,i.bytes))=some (some (.agg #[.string ByteArray.empty,.string ByteArray.empty,.slice none 0 0]),3,56):=Z
def tkV(p:Tk×Value):List Value:=[encStr p.1.1,encStr p.1.2.1,p.2]
def aAs(w:World)(a b c:Value)(t:TypeId):∀j u,[a,b,c][j]?=some u->(w.alloc (.cells #[a,b,c] t)).cell? ((⟨w.heap.size,0,none⟩:Addr).add j)=some u:=by
 intro j u z
 match j,z with
 |0,z=>simp at z;subst z;simp[Addr.add]
 |1,z=>simp at z;subst z;simp[Addr.add]
 |2,z=>simp at z;subst z;simp[Addr.add]
def TO{w p:World}{e b:Obj}(h:Below ((w.alloc e).alloc b).heap.size ((w.alloc e).alloc b) p):p.heap[w.heap.size]?=some e∧p.heap[w.heap.size+1]?=some b∧Below w.heap.size w p∧w.heap.size+2<=p.heap.size:=by
 have d:(w.alloc e).heap.size=w.heap.size+1:=QZ _;have r:((w.alloc e).alloc b).heap.size=w.heap.size+2:=(QZ _).trans (by rw[d]);have m:(w.alloc e).heap[w.heap.size]?=some e:=heap_alloc_new w e;have n:((w.alloc e).alloc b).heap[w.heap.size]?=some e:=by rw[heap_alloc_old _ _ O];exact m
 have t:((w.alloc e).alloc b).heap[w.heap.size+1]?=some b:=by have:=heap_alloc_new (w.alloc e) b;rwa [d]at this
 exact⟨by rw[h.block _ O];exact n,by rw[h.block _ O];exact t,(((Below.refl _ w).alloc (Qe _) _).alloc O _).trans (h.mono O),by have:=h.size;omega⟩
def Ew{w:World}{b:Nat}{v:Value}{T:TypeId}(h:w.heap[b]?=some (.cells #[v] T (0,0))):w.cell? ⟨b,0,none⟩=some v:=by simp[World.cell?,h]
def tD{w:World}{b:Nat}{v:Value}{T:TypeId}(h:w.heap[b]?=some (.cells #[v] T (0,0))):w.frozen? ⟨b,0,none⟩=false:=by simp[World.frozen?,h]
def aTI(w:World)(l:List Tk)(f:Option Addr)(c:Nat)(name:Bs)(q:Int)
  (z:∀k,Below w.heap.size w k->Calls Qc 40 #[.agg #[.slice f l.length c],encStr name] k λe w'=>e= .returned (.tuple #[.int .i64 q,.bool false])∧Below k.heap.size k w'):
  Calls Qc 214 #[.agg #[.slice f l.length c],encStr name] w λe w'=>e= .returned (.tuple #[.agg #[.slice f l.length c],.slice none 0 0,.int .i64 6])∧Below w.heap.size w w':=by
 go_enter func214,ntmps214
 go_wp2_with fail
 refine(z _ (((Below.refl _ w).alloc (Qe _) _).alloc U _)).mono ?_;rintro e p ⟨rfl,na⟩;obtain⟨j,i,s,a⟩:=TO na;have g:p.cell? ⟨w.heap.size,0,none⟩=some (.slice f l.length c):=by simp[World.cell?,j]
 have n:p.cell? ⟨w.heap.size+1,0,none⟩=some (.slice none 0 0):=by simp[World.cell?,i]
 have d:p.frozen? ⟨w.heap.size+1,0,none⟩=false:=by simp[World.frozen?,i]
 have y:∀v,(p.setCell ⟨w.heap.size+1,0,none⟩ v).cell? ⟨w.heap.size+1,0,none⟩=some v:=λv=>World.cell?_setCell_same' _ _ _ (by rw[n];rfl)
 go_wp2_with fail
 refine bodyPost_ret (v:= .tuple #[.agg #[.slice f l.length c],.slice none 0 0,.int .i64 6]) (by simp[results,results214,go_sem,y]) rfl ⟨rfl,s.setCell U _⟩
def Cr(l:List Tk)(gone:List Bs):List Tk:=l.filter λt=>!GV gone t.1
def Sk(t:Tk)(l:List Tk)(gone:List Bs):Cr (t::l) gone=if GV gone t.1=true then Cr l gone else t::Cr l gone:=by
 grind [Cr,GV]
def Pk{w:World}{B e j n b:Nat}{v u:Value}{xs:List Value}(h:w.ownsRow B e j v n xs)(p:some b≠v.ownBlock):(w.setCell ⟨b,0,none⟩ u).ownsRow B e j v n xs:=by
 refine⟨h.1,?_⟩;rcases h.2 with h|⟨g,cap,cur,rfl,q,y,o⟩
 ·exact .inl h
 ·refine .inr ⟨g,cap,cur,rfl,q,?_,o⟩;rw[heap_setCell_other _ _ _ _ (λe=>p (congrArg some (show b=g from e.symm)))];exact y
def lF{w p:World}{l:List Tk}{f:Option Addr}{c:Nat}(j:p.heap[w.heap.size]?=some (.cells #[.slice f l.length c] 31 (0,0)))(i:p.heap[w.heap.size+1]?=some (.cells #[.slice none 0 0] 31 (0,0)))(s:Below w.heap.size w p)(a:w.heap.size+2<=p.heap.size):
  HY w p.heap.size w.heap.size (p.heap.size+1) (w.heap.size+1) l f c ((p.alloc (Obj.cells #[Value.slice none 0 0] 23)).alloc (Obj.cells #[Value.func (Fn.func 267) #[] #[pB p.heap.size,pB w.heap.size,pB (p.heap.size+1)]] 325)) (.slice none 0 0) []:=by
 have d:(p.alloc (Obj.cells #[Value.slice none 0 0] 23)).heap.size=p.heap.size+1:=QZ _;have r:∀o {k:Nat} {x:Obj},p.heap[k]?=some x->((p.alloc (Obj.cells #[Value.slice none 0 0] 23)).alloc o).heap[k]?=some x:=λo k x h=>by
  have g:=(Qv.1 h).1;rw[heap_alloc_old _ _ O,heap_alloc_old _ _ g];exact h
 refine⟨World.ownsRow_nil _ _ _ _,?_,r _ j,?_,⟨λ_=>rfl,λ_=>rfl⟩,r _ i,(s.alloc O _).alloc O _⟩
 ·rw[heap_alloc_old _ _ O];exact heap_alloc_new _ _
 ·have:=heap_alloc_new (p.alloc (Obj.cells #[Value.slice none 0 0] 23)) (Obj.cells #[Value.func (Fn.func 267) #[] #[pB p.heap.size,pB w.heap.size,pB (p.heap.size+1)]] 325)
  rwa [d]at this
def aTH(w:World)(G:Nat->Nat)(l:List Tk)(ao:Option Addr)(c:Nat)(name:Bs)(q:Int)(r:Bs->Nat)(hl:l.length<=900)(hT:iZ w G l ao)(T:Ix l r)
  (aa:∀wx,Below w.heap.size w wx->Calls Qc 40 #[.agg #[.slice ao l.length c],encStr name] wx λe w'=>e= .returned (.tuple #[.int .i64 q,.bool true])∧Below wx.heap.size wx w')
  (i:∀(wx:World)(v:Value)(ys:List Bs)(s:Bs),wx.ownsRow w.heap.size 9 1 v ys.length (ys.map encStr)->ys≠[]->ys.length<=1000->(v= .slice none 0 0↔ys=[])->Calls Qc 269 #[v,encStr s] wx λe w'=>e= .returned (.bool (GV ys s))∧Below wx.heap.size wx w'):
  Calls Qc 214 #[.agg #[.slice ao l.length c],encStr name] w λe w'=>∃gv lv ps,e= .returned (.tuple #[.agg #[lv],gv,.int .i64 0])∧Below w.heap.size w w'∧
   w'.ownsRow w.heap.size 9 1 gv (Em l l.length name).length (((Em l l.length name).mergeSort λx y=>decide (x<=y)).map encStr)∧gv≠ .slice none 0 0∧
   w'.ownsRow w.heap.size 107 3 lv ps.length (ps.flatMap tkV)∧(lv= .slice none 0 0↔ps=[])∧ps.map (·.1)=Cr l ((Em l l.length name).mergeSort λx y=>decide (x<=y))∧
   ∀p∈ps,Rep w (Gh.base G) (.slice p.1.2.2.1 [] (As p.1.2.2.2)) p.2:=by
 obtain⟨i0,hi,hx⟩:=Qx.1 aJH;simp only[QU]at hx;obtain⟨oa,la,pa⟩:=hx;have ta:=tZ T l.length name;have wa:Em l l.length name≠[]:=by cases l.length<;>simp[Em]
 go_enter func214,ntmps214
 go_wp2_with fail
 refine(aa _ (((Below.refl _ w).alloc (Qe _) _).alloc U _)).mono ?_;rintro e w2 ⟨rfl,na⟩;obtain⟨x1,x2,x3,x4⟩:=TO na;clear na;have D0:((w2.alloc (Obj.cells #[Value.slice none 0 0] 23)).alloc (Obj.cells #[Value.nilFunc] 325)).heap[w2.heap.size+1]?=some (Obj.cells #[Value.nilFunc] 325):=by
  have:=heap_alloc_new (w2.alloc (Obj.cells #[Value.slice none 0 0] 23)) (Obj.cells #[Value.nilFunc] 325)
  rwa [show(w2.alloc (Obj.cells #[Value.slice none 0 0] 23)).heap.size=w2.heap.size+1 from QZ _]at this
 have D1:((w2.alloc (Obj.cells #[Value.slice none 0 0] 23)).alloc (Obj.cells #[Value.nilFunc] 325)).cell? ⟨w2.heap.size+1,0,none⟩=some Value.nilFunc:=Ew D0;have D2:((w2.alloc (Obj.cells #[Value.slice none 0 0] 23)).alloc (Obj.cells #[Value.nilFunc] 325)).frozen? ⟨w2.heap.size+1,0,none⟩=false:=tD D0
 go_wp2_with fail
 have T0:=lF x1 x2 x3 x4;refine(aMa O O hT T l.length name O _ _ _ T0 Xb).mono ?_;rintro e w3 ⟨rfl,v3,T3⟩;clear T0 D0 D1 D2;rw[QC]at T3;generalize hD:Em l l.length name=ds at *;obtain⟨g,cap,rfl,ab,hH,T4⟩:=T3.sorted wa;have E1:w3.cell? ⟨w2.heap.size,0,none⟩=some (.slice (some ⟨g,0,none⟩) ds.length cap):=Ew T3.g;have m:Calls Qc 268 #[.slice (some ⟨g,0,none⟩) ds.length cap] w3 λe w'=>e= .returned (.tuple #[])∧∃n os,w'=grow (putRow encStr (Sort.ahead w3 n) g 0 (ds.mergeSort λx y=>decide (x<=y)).toArray) os:=Any.slices_Sort_string aU g 0 cap ds w3 hH ab O
 go_wp2_with fail
 refine m.mono ?_;rintro e w4 ⟨rfl,nn,os,db⟩;replace T4:=T4 nn os;rw[←db]at T4;clear m db T3 hH E1;have ma:(ds.mergeSort λx y=>decide (x<=y)).length=ds.length:=Qs ds;have xa:(ds.mergeSort λx y=>decide (x<=y))≠[]:=λe=>by rw[e]at ma;exact wa (Zc ma.symm)
 generalize ya:(ds.mergeSort λx y=>decide (x<=y))=ss at *;have E2:w4.cell? ⟨w.heap.size,0,none⟩=some (.slice ao l.length c):=Ew T4.s;have HT:Aside (iZ w G l ao):=hT;have H2:Aside (∀(wx:World)(v:Value)(ys:List Bs)(s:Bs),wx.ownsRow w.heap.size 9 1 v ys.length (ys.map encStr)->ys≠[]->ys.length<=1000->(v= .slice none 0 0↔ys=[])->Calls Qc 269 #[v,encStr s] wx λe w'=>e= .returned (.bool (GV ys s))∧Below wx.heap.size wx w'):=i;clear hT i aa;generalize ua:ds.length=n at *
 go_wp2_with fail
 go_loopg [11,32] l.length (λgg ha sa wx=>∃(k:Nat)(ps:List (Tk×Value)),k+gg=l.length∧sa= .int .i64 k∧ps.length<=k∧Aside (ps.map (·.1)++Cr (l.drop k) ss=Cr l ss)∧
  wx.ownsRow w.heap.size 107 3 ha ps.length (ps.flatMap tkV)∧Aside (ha= .slice none 0 0↔ps=[])∧Aside (∀p∈ps,Rep w (Gh.base G) (.slice p.1.2.2.1 [] (As p.1.2.2.2)) p.2)∧
  Aside (HY w w2.heap.size w.heap.size (w2.heap.size+1) (w.heap.size+1) l ao c wx (.slice (some ⟨g,0,none⟩) n cap) ss))
 case atStart=>exact⟨0,[],O,rfl,Qe _,rfl,World.ownsRow_nil _ _ _ _,ZU (λ_=>rfl) (λ_=>rfl),(by show ∀p∈([]:List (Tk×Value)),_;intro p hp;cases hp),T4⟩
 case round=>
  obtain⟨k,ps,va,rfl,ra,HI,ba,fa,HR,TY⟩:=hrel;have za:=TY.out.below.size;cases gk with
  |zero=>
   have ia:¬((k:Int)<(l.length:Int)):=O
   have G1:wr.cell? ⟨w2.heap.size,0,none⟩=some (.slice (some ⟨g,0,none⟩) n cap):=Ew TY.out.g;have G2:wr.cell? ⟨w.heap.size+1,0,none⟩=some (.slice none 0 0):=Ew TY.out.r;have G3:wr.frozen? ⟨w.heap.size+1,0,none⟩=false:=tD TY.out.r;have G0:w.heap.size+1≠w2.heap.size:=O
   have G4:∀v,(wr.setCell ⟨w.heap.size+1,0,none⟩ v).cell? ⟨w2.heap.size,0,none⟩=some (.slice (some ⟨g,0,none⟩) n cap):=λv=>(World.cell?_setCell_other _ _ _ _ (λe=>G0 (congrArg Addr.block e))).trans G1
   have G5:∀v,(wr.setCell ⟨w.heap.size+1,0,none⟩ v).cell? ⟨w.heap.size+1,0,none⟩=some v:=λv=>World.cell?_setCell_same' _ _ _ (by rw[G2];rfl)
   obtain⟨lo,ln,lc,rfl⟩:∃lo ln lc,u11= .slice lo ln lc:=by
    rcases ba.2 with ⟨h,_⟩|⟨_,_,_,h,_⟩<;>exact⟨_,_,_,h⟩
   go_wp2_with fail
   go_region
   all_goals (
    go_wp2_with fail
    have ca:=Pk (u:= .slice lo ln lc) ba (Ov ba TY.out.r V);have ga:=Pk (u:= .slice lo ln lc) TY.out.own (Ov TY.out.own TY.out.r V);have ja:=TY.out.below.setCell (p:=⟨w.heap.size+1,0,none⟩) U (.slice lo ln lc);refine bodyPost_ret (v:= .tuple #[.agg #[.slice lo ln lc],.slice (some ⟨g,0,none⟩) n cap,.int .i64 0]) (by simp[results,results214,go_sem,G5]) rfl ⟨_,_,ps,rfl,⟨ja.os,ja.tape,ja.output,ja.size,ja.block⟩,?_,U,ca,fa.out,?_,HR.out⟩
    ·rw[ma]at ga;rw[hD,ya,ua];exact ga
    ·have:=HI.out;rw[Q8 O]at this;rw[hD,ya,←this];simp[Cr])
  |succ gg=>
   have ia:(k:Int)<(l.length:Int):=O
   obtain⟨t,hs⟩:∃t,l[k]?=some t:=⟨_,Qd O⟩;obtain⟨a,ro,rn,rc,rfl,c1,c2,c3,c4⟩:=HT.out.load TY.out.below hs;have hd:Aside (l.drop k=t::l.drop (k+1)):=oB hs;have ka:∀o,Calls Qc 269 #[.slice (some ⟨g,0,none⟩) n cap,encStr t.1] (wr.alloc o) λe w'=>e= .returned (.bool (GV ss t.1))∧Below (wr.alloc o).heap.size (wr.alloc o) w':=λo=>
    H2.out _ _ ss t.1 (TY.out.alloc o).own xa O ⟨λe=>by simp at e,λe=>absurd e xa⟩
   have E3:∀o,(wr.alloc o).cell? ⟨w2.heap.size,0,none⟩=some (.slice (some ⟨g,0,none⟩) n cap):=λo=>Ew (TY.out.alloc o).g
   have C4:Aside (Rep w (Gh.base G) (.slice t.2.2.1 [] (As t.2.2.2)) (.slice ro rn rc)):=c4;clear c4 hs
   go_wp2_with fail
   refine(ka _).mono ?_;rintro e w5 ⟨rfl,ga⟩;generalize ho:Obj.cells #[encStr t.1,encStr t.2.1,.slice ro rn rc] 107 (0,0)=ob at *;have qa:=ga.size;have cb:(wr.alloc ob).heap.size=wr.heap.size+1:=QZ _;have T5:Aside (HY w w2.heap.size w.heap.size (w2.heap.size+1) (w.heap.size+1) l (some a) c w5 (.slice (some ⟨g,0,none⟩) n cap) ss):=
    (TY.out.alloc ob).kept (Ci ga (Qe _) none qa) (λ_ _ _ _ _ h=>Xc) (λ_ h=>Xc)
   have f:=(ba.alloc ob).kept (Ci ga (Qe _) none qa) (mC _);have F0:w5.heap[wr.heap.size]?=some ob:=by rw[ga.block _ O];exact heap_alloc_new _ _
   subst ho;have F1:w5.cell? ⟨wr.heap.size,0,none⟩=some (encStr t.1):=Yd
   have F2:w5.cell? ⟨wr.heap.size,1,none⟩=some (encStr t.2.1):=Yd
   have F3:w5.cell? ⟨wr.heap.size,2,none⟩=some (.slice ro rn rc):=Yd
   clear ka E3 ga F0;cases hb:GV ss t.1 with
   |true=>
    have d:Aside (Cr (l.drop k) ss=Cr (l.drop (k+1)) ss):=by show _=_;rw[hd.out,Sk,if_pos hb]
    clear hb
    go_wp2_with fail
    go_roundg gg
    case measure=>omega
    case rel=>exact⟨k+1,ps,O,Xz,O,X0,f,fa,HR,T5⟩
   |false=>
    have d:Aside (Cr (l.drop k) ss=t::Cr (l.drop (k+1)) ss):=by show _=_;rw[hd.out,Sk,if_neg (by rw[hb];decide)]
    clear hb
    go_wp2_with (at_builtin;refine wpList_append_own _ rfl _ _ 29 rfl w.heap.size 107 i0 (.agg #[.string ByteArray.empty,.string ByteArray.empty,.slice none 0 0]) 3 56 underlying29 hi oa la pa rfl V _ _ _ rfl (f.alloc _) ⟨w5.heap.size,0,none⟩ 1 1 [encStr t.1,encStr t.2.1,.slice ro rn rc] rfl rfl (aAs _ _ _ _ _) (λx hx=>by simp at hx;rcases hx with rfl|rfl|rfl<;>rfl) Xq O Xb ?_;intro v' w6 da z ea)
    have bb:(w5.alloc (Obj.cells #[encStr t.1,encStr t.2.1,.slice ro rn rc] 107 (0,0))).heap.size=w5.heap.size+1:=QZ _;have T6:Aside (HY w w2.heap.size w.heap.size (w2.heap.size+1) (w.heap.size+1) l (some a) c w6 (.slice (some ⟨g,0,none⟩) n cap) ss):=
     (T5.out.alloc _).kept z (λb cs Ty hb hT=>Ov (f.alloc _) hb hT) (λj hj=>(f.lt j hj).1)
    go_roundg gg
    case measure=>omega
    case rel=>exact⟨k+1,ps++[(t,.slice ro rn rc)],O,Xz,Xb,Yj,by simpa[tkV]using da,by show _↔_;rw[ea];simp,(by
      show ∀p∈_,_;intro p hp;rcases QH.1 hp with h|h
      ·exact HR.out p h
      ·rw[Zg.1 h];exact C4.out),T6⟩
def GG{w c:World}{G:Nat->Nat}{d:D}{v:Value}(h:Rep w (Gh.base G) d v)(s:d.calm=true)(j:∀b,w.heap.size<=b->G b=0)(f:Below w.heap.size w c){G':Nat->Nat}(q:∀b,b<w.heap.size->G b<=G' b):Rep c (Gh.base G') d v:=
 h.calm_to s (λp g=>by
  have k:p.block<w.heap.size:=by
   grind [Gh.base]
  exact f.cell k) (λb=>by
  rcases ZR b w.heap.size with h|h
  ·exact q b h
  ·show G b<=_;rw[j b h];exact Qf _)
def xB{w:World}{G:Nat->Nat}{nl:Bool}{t:Id}{l:List Tk}{v:Value}(h:Rep w (Gh.base G) (.slice nl t (Ar l)) v):∃f c,v= .slice f l.length c∧iZ w G l f:=by
 rcases h.slice_inv with ⟨_,b,rfl⟩|⟨_,ad,n,c,sz,e,rfl,x,d,r,p,r5,r6,r7,r8,r9⟩
 ·have:l=[]:=by cases l with|nil=>rfl|cons=>cases b
  subst this;exact⟨none,0,rfl,λj s h=>Xd⟩
 ·rw[show(Ar l).length=l.length from Qr ..]at x;subst x;refine⟨some ad,c,rfl,λj k z=>?_⟩;have ea:j<l.length:=(Qy.1 z).1;have o:sz=3:=(r (IW k) (Qp.2 ⟨k,QS z,rfl⟩)).symm;subst o;have g:l[j]=k:=(Qy.1 z).2;have y:∀i,i<3->(flat (Ar l))[j*3+i]?=(IW k).cells[i]?:=λi hi=>by
   rw[EJ r (by simpa[Ar]using ea) hi];simp[Ar,g]
  have u:=(r6 _ _ ((y 0 V).trans rfl)).str_inv;have m:=(r6 _ _ ((y 1 V).trans rfl)).str_inv;have e2:=r6 _ _ ((y 2 V).trans rfl);obtain⟨a,q,ev,_⟩:=e2.len_slice;rw[ev]at e2;exact⟨ad,a,_,q,rfl,by rw[p _ O];exact congrArg some u,by rw[p _ O];exact congrArg some m,by rw[p _ O,ev],e2⟩
def Sz{w:World}{g:Gh}:∀(ps:List (Tk×Value))(_:∀p∈ps,Rep w g (.slice p.1.2.2.1 [] (As p.1.2.2.2)) p.2)(j:Nat)(d:D),(flat (Ar (ps.map (·.1))))[j]?=some d->∃v,(ps.flatMap tkV)[j]?=some v∧v.oneCell'=true∧Rep w g d v
 |[],_,j,d,h=>by simp[Ar,flat]at h
 |p::ps,hp,j,d,h=>by
  have e:flat (Ar ((p::ps).map (·.1)))=[D.str p.1.1,D.str p.1.2.1,D.slice p.1.2.2.1 [] (As p.1.2.2.2)]++flat (Ar (ps.map (·.1))):=rfl;rw[e]at h;rw[ZF];have i:=hp p (Qo ..)
  match j,h with
  |0,h=>cases h;exact⟨_,rfl,rfl,.str _⟩
  |1,h=>cases h;exact⟨_,rfl,rfl,.str _⟩
  |2,h=>
   cases h;refine⟨p.2,rfl,?_,i⟩;obtain⟨_,_,ev,_⟩:=i.len_slice;rw[ev];rfl
  |j+3,h=>exact Sz ps (λq z=>hp q (Qu _ z)) j d h
def aIT{w:World}{B e:Nat}{lv:Value}{ps:List (Tk×Value)}{g:Gh}(h:w.ownsRow B e 3 lv ps.length (ps.flatMap tkV))(na:lv= .slice none 0 0↔ps=[])(y:∀p∈ps,Rep w g (.slice p.1.2.2.1 [] (As p.1.2.2.2)) p.2)(q:∀b,lv.ownBlock=some b->ps.length*3<=g.G b):Rep w g (.slice (decide (ps.map (·.1)=[])) [] (Ar (ps.map (·.1)))) lv:=by
 rcases h.2 with ⟨o,hz⟩|⟨b,c,cur,r,_,_,k,_⟩
 ·have:=na.1 o;subst this;subst o;exact .nils _
 ·have t:ps≠[]:=λe=>by rw[na.2 e]at r;cases r
  have f:=q b (by rw[r];rfl);rw[decide_eq_false (by simpa using t)];have i:=h;subst r;refine .slice [] _ ⟨b,0,none⟩ ps.length c 3 (λj=>(ps.flatMap tkV).getD j .nilFunc) (by simp[Ar]) k (λd z=>?_) (λj u=>?_) (λj u=>?_) (λj d z=>?_) (λ_=>Xa) (λh=>absurd rfl h) (λd z=>?_)
  ·obtain⟨s,_,rfl⟩:=Qp.1 z;rfl
  ·have ta:j<(ps.flatMap tkV).length:=by rw[h.1];exact u
   exact i.cells rfl j _ (by simp only[Qz];rw[Qd ta];rfl)
  ·have x:j<(flat (Ar (ps.map (·.1)))).length:=by
    rw[Cx (sz:=3) (λd z=>by obtain⟨s,_,rfl⟩:=Qp.1 z;rfl)];simpa[Ar]using u
   obtain⟨v,n,m,_⟩:=Sz ps y j _ (Qd x);simp only[Qz,n,Q4];exact m
  ·obtain⟨v,n,_,a⟩:=Sz ps y j d z;simp only[Qz,n,Q4];exact a
  ·obtain⟨s,_,rfl⟩:=Qp.1 z;rfl
def Ue(s z:Bs):(Di s z).length<=s.length:=by
 grind [Di]
def lM(l:List Bs):List Bs:=l.mergeSort λx y=>decide (x<=y)
def uO(z:Bs)(l:List Bs):List Bs:=Lib.compact (lM (GT z l))
def eP(p:Bs×Bool×List Bs):List D:=[.str p.1,.slice p.2.1 [] (strsD p.2.2)]
theorem xF{a b:List Bs}(h:strsD a=strsD b):a=b:=by
 unfold strsD at h;exact List.map_inj_right (λx y e=>by cases e;rfl) |>.1 h
def yJ(x y)(h:eP x=eP y):x=y:=by
 grind [eP,xF]
def TG:List D->Option D:=FX eP (λp=>p.2.2.length<=2000∧∀s∈p.2.2,s.length<=1000000) λp=> .slice (decide (GT p.1 p.2.2=[])) [] (strsD (uO p.1 p.2.2))
def aLu{z:Bs}{nl:Bool}{l:List Bs}(h:l.length<=2000)(j:∀s∈l,s.length<=1000000):TG [.str z,.slice nl [] (strsD l)]=some (.slice (decide (GT z l=[])) [] (strsD (uO z l))):=
 Ca (mk:=eP) (a:=(z,nl,l)) yJ ⟨h,j⟩
def aU9:Kq TG 217:=by
 refine GQ ⟨_,func217,Z,Z⟩ λds r y vs w G hl t j=>⟨?_,?_⟩
 ·obtain⟨p,_,_,rfl⟩:=CV y;rfl
 ·obtain⟨⟨z,nl,l⟩,⟨k,n⟩,rfl,rfl⟩:=CV y;simp only at k n
  match vs,hl with
  |[v0,v1],_=>
   have e0:=(t 0 _ v0 rfl rfl).str_inv;subst e0;obtain⟨ao,c,rfl,x⟩:=lH (t 1 _ v1 rfl rfl);refine(aYo w z l ao c k x (λs a w=>?_)).mono ?_
   ·refine(I7 aWl (aK2 s z (n s a) (Ue s z)) rfl w).mono ?_;rintro e w' ⟨v,g',rfl,q,hR⟩;refine⟨?_,q⟩;obtain⟨us,rfl,i,d⟩:=hR.tup_inv
    match us,i with
    |[u0,u1],_=>
     rw[(d 0 _ u0 rfl rfl).str_inv,(d 1 _ u1 rfl rfl).bool_inv]
   ·rintro e w' ⟨v,rfl,q,⟨rfl,u⟩|⟨u,g,cap,rfl,f,m,o⟩⟩
    ·refine⟨_,G,rfl,q,λb h=>j b (QG q.size h),λ_ _=>rfl,?_⟩;have e:uO z l=[]:=by unfold uO lM;rw[u,List.mergeSort_nil];rfl
     rw[e,decide_eq_true u];exact .nils _
    ·refine⟨_,λb=>if b<w.heap.size then G b else if b=g then(uO z l).length else 0,rfl,q,λb h=>?_,λb h=>if_pos h,?_⟩
     ·grind
     ·rw[decide_eq_false u];exact Ng o (by simp only[Gh.base];rw[if_neg O,if_pos trivial];exact Qe _)
def BK(l:List Tk)(s:Bs):List Bs:=lM (Em l l.length s)
def Uq(p:Bool×List Tk×Bs):List D:=[.agg [.slice p.1 [] (Ar p.2.1)],.str p.2.2]
def Up(x y)(h:Uq x=Uq y):x=y:=by
 grind [Uq,cO]
def I5(p:Bool×List Tk×Bs):D:=if AY p.2.1 p.2.2=false then .tup [.agg [.slice p.1 [] (Ar p.2.1)],.slice true [] (strsD []),.int .i64 6]
 else .tup [.agg [.slice (decide (Cr p.2.1 (BK p.2.1 p.2.2)=[])) [] (Ar (Cr p.2.1 (BK p.2.1 p.2.2)))],.slice false [] (strsD (BK p.2.1 p.2.2)),.int .i64 0]
def Ta:List D->Option D:=FX Uq (λp=>p.2.1.length<=900∧∃r,Ix p.2.1 r) I5
def aLv{nl:Bool}{l:List Tk}{s:Bs}{r:Bs->Nat}(h:l.length<=900)(i:Ix l r)(k:AY l s=false):Ta [.agg [.slice nl [] (Ar l)],.str s]=some (.tup [.agg [.slice nl [] (Ar l)],.slice true [] (strsD []),.int .i64 6]):=by
 have:=Ca (mk:=Uq) (ok:=λp=>p.2.1.length<=900∧∃r,Ix p.2.1 r) (res:=I5) (a:=(nl,l,s)) Up ⟨h,r,i⟩;rw[show I5 (nl,l,s)=_ from if_pos k]at this;exact this
def aHj{nl:Bool}{l:List Tk}{s:Bs}{r:Bs->Nat}(h:l.length<=900)(i:Ix l r)(k:AY l s=true):Ta [.agg [.slice nl [] (Ar l)],.str s]=some (.tup [.agg [.slice (decide (Cr l (BK l s)=[])) [] (Ar (Cr l (BK l s)))],.slice false [] (strsD (BK l s)),.int .i64 0]):=by
 have:=Ca (mk:=Uq) (ok:=λp=>p.2.1.length<=900∧∃r,Ix p.2.1 r) (res:=I5) (a:=(nl,l,s)) Up ⟨h,r,i⟩;rw[show I5 (nl,l,s)=_ from if_neg (by rw[k];decide)]at this;exact this
def aVa:Kq Ta 214:=by
 refine GQ ⟨_,func214,Z,Z⟩ λds r hF vs w G hl da ba=>⟨?_,?_⟩
 ·obtain⟨p,_,_,rfl⟩:=CV hF;unfold I5;split<;>rfl
 ·obtain⟨⟨nl,l,s⟩,⟨ca,rk,hT⟩,rfl,rfl⟩:=CV hF;simp only at ca hT
  match vs,hl with
  |[v0,v1],_=>
   have e1:=(da 1 _ v1 rfl rfl).str_inv;subst e1;have la:=da 0 _ v0 rfl rfl;obtain⟨us,rfl,ja,x,hu⟩:=aJ la
   match us,ja with
   |[u0],_=>
    have pa:=hu 0 _ u0 rfl rfl;obtain⟨ao,c,rfl,fa⟩:=xB pa;have aa:∀wx,Below w.heap.size w wx->Calls Qc 40 #[.agg #[.slice ao l.length c],encStr s] wx λe w'=>e= .returned (.tuple #[.int .i64 (IZ l s:Int),.bool (AY l s)])∧Below wx.heap.size wx w':=λwx hb=>by
     refine(EE (vs:=[.agg #[.slice ao l.length c],encStr s]) (G:=G) aCt (O7 (nl:=nl) (t:=[]) (l:=l) (s:=s) O) rfl rfl rfl (λj d v hd hv=>?_) (λb h=>ba b (QG hb.size h))).mono ?_
     ·match j,hd,hv with
      |0,hd,hv=>cases hd;cases hv;exact GG la rfl ba hb (λ_ _=>Qe _)
      |1,hd,hv=>cases hd;cases hv;exact .str _
     ·rintro e w' ⟨v,g',rfl,wa,hR⟩;refine⟨?_,wa⟩;obtain⟨us,rfl,ja,hu⟩:=hR.tup_inv
      match us,ja with
      |[u0,u1],_=>rw[(hu 0 _ u0 rfl rfl).int_inv,(hu 1 _ u1 rfl rfl).bool_inv]
    cases hf:AY l s with
    |false=>
     rw[hf]at aa;refine(aTI w l ao c s _ aa).mono ?_;rintro e w' ⟨rfl,hb⟩;refine⟨_,G,rfl,hb,λb h=>ba b (QG hb.size h),λ_ _=>rfl,?_⟩;rw[show I5 (nl,l,s)=_ from if_pos hf];refine .tup _ [_,_,_] rfl (λj d v hd hv=>?_)
     match j,hd,hv with
     |0,hd,hv=>cases hd;cases hv;exact GG la rfl ba hb (λ_ _=>Qe _)
     |1,hd,hv=>cases hd;cases hv;exact .nils _
     |2,hd,hv=>cases hd;cases hv;exact .int _ _
    |true=>
     rw[hf]at aa;have i:∀(wx:World)(v:Value)(ys:List Bs)(n:Bs),wx.ownsRow w.heap.size 9 1 v ys.length (ys.map encStr)->ys≠[]->ys.length<=1000->(v= .slice none 0 0↔ys=[])->Calls Qc 269 #[v,encStr n] wx λe w'=>e= .returned (.bool (GV ys n))∧Below wx.heap.size wx w':=λwx v ys n ho ga sa na=>by
      obtain⟨g,cap,rfl,f,m,_⟩:=Lib.holds_of_ownsRow ho (λe=>ga (na.1 e));refine(EE (vs:=[.slice (some ⟨g,0,none⟩) ys.length cap,encStr n]) (G:=λb=>if b=g then ys.length else 0) aWm (aK3 (nl:=false) (l:=ys) n O) rfl rfl rfl (λj d v hd hv=>?_) (λb h=>if_neg O)).mono ?_
      ·match j,hd,hv with
       |0,hd,hv=>cases hd;cases hv;exact Ng ho (by simp[Gh.base])
       |1,hd,hv=>cases hd;cases hv;exact .str _
      ·rintro e w' ⟨v,g',rfl,wa,hR⟩;exact⟨by rw[hR.bool_inv],wa⟩
     refine(aTH w G l ao c s _ rk ca fa hT aa i).mono ?_;rintro e w' ⟨gv,lv,ps,rfl,hb,a,z,q,u,ia,o⟩;have ma:(BK l s).length=(Em l l.length s).length:=Qs _;rw[←ma]at a;obtain⟨gb,cap,rfl,f,m,_⟩:=Lib.holds_of_ownsRow a z;have ea:=q.lt;rw[show I5 (nl,l,s)=_ from if_neg (show ¬AY l s=false by rw[hf];decide)];have ga:lv.ownBlock≠some gb:=λe=>by
      rcases a.2 with ⟨h0,_⟩|⟨g',qa,cur,hv,_,hh,_⟩
      ·cases h0
      ·grind [Ov]
     have ka:=hb.size
     let G':Nat->Nat:=λb=>if b<w.heap.size then G b else if b=gb then(BK l s).length else if some b=lv.ownBlock then ps.length*3 else 0
     have y:∀b,b<w.heap.size->G' b=G b:=λb h=>if_pos h
     refine⟨_,G',rfl,hb,λb h=>?_,y,?_⟩
     ·grind
     ·refine .tup _ [_,_,_] rfl (λj d v hd hv=>?_)
      match j,hd,hv with
      |0,hd,hv=>
       cases hd;cases hv;refine .agg _ [lv] rfl (λv hv=>?_) (λj d v hd hv=>?_)
       ·rw[Zg.1 hv];rcases q.2 with ⟨h,_⟩|⟨_,_,_,h,_⟩<;>rw[h]<;>rfl
       ·match j,hd,hv with
        |0,hd,hv=>
         cases hd;cases hv;have:=aIT (g:=Gh.base G') q u (λp hp=>GG (o p hp) rfl ba hb (λb h=>Nat.le_of_eq (y b h).symm)) (λb k=>by
          show _<=(if _ then _ else _);rw[if_neg (by have:=(ea b k).1;omega),if_neg (λe=>ga (by rw[k,e])),if_pos k.symm];exact Qe _)
         rw[ia]at this;exact this
      |1,hd,hv=>
       cases hd;cases hv;exact Ng a (by
        show _<=(if _ then _ else _);rw[if_neg O,if_pos rfl];exact Qe _)
      |2,hd,hv=>cases hd;cases hv;exact .int _ _
end Go.Vd
namespace Go.Vd
open Go.Proofs Go.RowKit
def aEz:=y2 f256 [] []
def aEM:=y2 f104 [] []
def aEG:=y2 f172 [] []
def aEC:=y2 f202 [] []
end Go.Vd
namespace Go.Vd
abbrev Kt:=List UInt8
abbrev H_(a b:Kt):Bool:=Op.bytesLess a b
def CR:∀a:Kt,H_ a a=false
 |[]=>rfl
 |x::r=>by simp[H_,Op.bytesLess];exact CR r
def MD:∀{a b:Kt},a≠b->H_ a b=!H_ b a
 |[],[],h=>absurd rfl h
 |[],y::s,_=>rfl
 |x::r,[],_=>rfl
 |x::r,y::s,h=>by
  simp only[H_,Op.bytesLess];by_cases c:x=y
  ·have:=@MD r s (by intro e;exact h (by rw[c,e]));simp only[H_]at this;simp_all
  ·grind
def Cq:∀{a b c:Kt},H_ a b=true->H_ b c=true->H_ a c=true
 |a,b,[],h1,h2=>by simp[H_,Op.bytesLess]at h2
 |a,[],z::t,h1,h2=>by cases a<;>simp[H_,Op.bytesLess]at h1
 |[],y::s,z::t,h1,h2=>rfl
 |x::r,y::s,z::t,h1,h2=>by
  simp only[H_,Op.bytesLess,Zt,QB,decide_eq_true_eq,beq_iff_eq]at h1 h2 ⊢;rcases h1 with h1|⟨rfl,h1⟩
  ·grind
  ·rcases h2 with h2|⟨rfl,h2⟩
   ·left;exact h2
   ·right;exact⟨rfl,@Cq r s t h1 h2⟩
def CZ{a b:Kt}(h:H_ a b=true):H_ b a=false:=by
 by_cases e:a=b
 ·subst e;rw[CR]at h;cases h
 ·have:=MD e;simp_all
inductive Tr where
 |nil
 |node (l:Tr) (k v:Kt) (r:Tr)
namespace Tr
def tall:Tr->Nat
 |nil=>0
 |node l _ _ r=>1+max l.tall r.tall
def cnt:Tr->Nat
 |nil=>0
 |node l _ _ r=>1+l.cnt+r.cnt
def wgt:Tr->Nat
 |nil=>0
 |node l k v r=>4+k.length+v.length+l.wgt+r.wgt
def lst:Tr->List (Kt×Kt)
 |nil=>[]
 |node l k v r=>l.lst++(k,v)::r.lst
def rotL:Tr->Tr
 |node l k v (node a x y b)=>node (node l k v a) x y b
 |t=>t
def rotR:Tr->Tr
 |node (node a x y b) k v r=>node a x y (node b k v r)
 |t=>t
def level(l:Tr)(k v:Kt)(r:Tr):Tr:=
 if r.tall+1<l.tall then
  match l with
  |node a x y b=>if a.tall<b.tall then rotR (node (rotL l) k v r)else rotR (node l k v r)
  |nil=>node l k v r
 else if l.tall+1<r.tall then
  match r with
  |node a x y b=>if b.tall<a.tall then rotL (node l k v (rotR r))else rotL (node l k v r)
  |nil=>node l k v r
 else node l k v r
def join(l:Tr)(k v:Kt)(r:Tr):Tr:=
 if r.tall+1<l.tall then
  match l with
  |node a x y b=>level a x y (join b k v r)
  |nil=>node l k v r
 else if l.tall+1<r.tall then
  match r with
  |node a x y b=>level (join l k v a) x y b
  |nil=>node l k v r
 else node l k v r
termination_by SizeOf.sizeOf l+SizeOf.sizeOf r
def put(k v:Kt):Tr->Tr
 |nil=>node nil k v nil
 |node l x y r=>if H_ k x then level (put k v l) x y r else if H_ x k then level l x y (put k v r)else node l k v r
def first:Tr->Kt->Kt->Tr->Kt×Kt×Tr
 |nil,k,v,r=>(k,v,r)
 |node a x y b,k,v,r=>let z:=first a x y b;(z.1,z.2.1,level z.2.2 k v r)
def both(l r:Tr):Tr:=
 match r with
 |nil=>l
 |node a x y b=>let z:=first a x y b;join l z.1 z.2.1 z.2.2
def split(q:Kt):Tr->Tr×Tr
 |nil=>(nil,nil)
 |node l x y r=>if H_ x q then let z:=split q r;(join l x y z.1,z.2)else let z:=split q l;(z.1,join z.2 x y r)
def get(q:Kt):Tr->Option Kt
 |nil=>none
 |node l x y r=>if H_ q x then get q l else if H_ x q then get q r else some y
def rank(q:Kt):Tr->Nat
 |nil=>0
 |node l x y r=>if H_ x q then 1+l.cnt+rank q r else rank q l
def at_:Tr->Nat->Option (Kt×Kt)
 |nil,_=>none
 |node l x y r,i=>if i<l.cnt then at_ l i else if l.cnt<i then at_ r (i-(l.cnt+1))else some (x,y)
def eS:∀t,(rotL t).lst=t.lst
 |nil=>rfl
 |node l k v nil=>rfl
 |node l k v (node a x y b)=>by simp[rotL,lst]
def eR:∀t,(rotR t).lst=t.lst
 |nil=>rfl
 |node nil k v r=>rfl
 |node (node a x y b) k v r=>by simp[rotR,lst]
def E9(l:Tr)(k v:Kt)(r:Tr):(level l k v r).lst=l.lst++(k,v)::r.lst:=by
 unfold level;split
 ·split
  ·split<;>simp[eR,lst,eS]
  ·rfl
 ·split
  ·split
   ·split<;>simp[eS,lst,eR]
   ·rfl
  ·rfl
def Fs(l:Tr)(k v:Kt)(r:Tr):(join l k v r).lst=l.lst++(k,v)::r.lst:=by
 fun_induction join l k v r<;>simp_all [E9,lst]
def GR:∀(l:Tr)(k v:Kt)(r:Tr),((first l k v r).1,(first l k v r).2.1)::(first l k v r).2.2.lst=l.lst++(k,v)::r.lst
 |nil,k,v,r=>rfl
 |node a x y b,k,v,r=>by
  have:=GR a x y b;simp only[first,E9,lst];rw[←this];rfl
def eT(l r:Tr):(both l r).lst=l.lst++r.lst:=by
 unfold both;cases r with
 |nil=>simp[lst]
 |node a x y b=>
  have:=GR a x y b;simp only[Fs];rw[this];rfl
def Ord(l:List (Kt×Kt)):Prop:=l.Pairwise λa b=>H_ a.1 b.1=true
def rW{a b:List (Kt×Kt)}:Ord (a++b)↔Ord a∧Ord b∧∀x∈a,∀y∈b,H_ x.1 y.1=true:=List.pairwise_append
def VN{a b:List (Kt×Kt)}{k v:Kt}(h:Ord (a++(k,v)::b)):Ord a∧Ord b∧(∀x∈a,H_ x.1 k=true)∧(∀x∈b,H_ k x.1=true):=by
 obtain⟨u,y,o⟩:=rW.1 h;have j:=QM.1 y;exact⟨u,j.2,λx p=>o x p _ Qo,λx p=>j.1 x p⟩
def V7(l:List (Kt×Kt))(k v:Kt):List (Kt×Kt):=l.filter (λx=>H_ x.1 k)++(k,v)::l.filter (λx=>H_ k x.1)
def Et{l:List (Kt×Kt)}{p:Kt×Kt->Bool}(h:∀x∈l,p x=true):l.filter p=l:=List.filter_eq_self.2 h
def Ht{l:List (Kt×Kt)}{p:Kt×Kt->Bool}(h:∀x∈l,p x=false):l.filter p=[]:=Zs.2 λx w=>by rw[h x w];simp
def lst_put(k v:Kt):∀t:Tr,Ord t.lst->(put k v t).lst=V7 t.lst k v
 |nil,_=>rfl
 |node l x y r,h=>by
  obtain⟨u,f,o,j⟩:=VN h;unfold put;split
  ·rename_i c;rw[E9,lst_put k v l u];have m:r.lst.filter (λx=>H_ x.1 k)=[]:=Ht λz d=>CZ (Cq c (j z d))
   have n:r.lst.filter (λx=>H_ k x.1)=r.lst:=Et λz d=>Cq c (j z d)
   simp[V7,lst,QY,Qi,c,CZ c,m,n]
  ·split
   ·rename_i b c;rw[E9,lst_put k v r f];have m:l.lst.filter (λx=>H_ x.1 k)=l.lst:=Et λz d=>Cq (o z d) c
    have n:l.lst.filter (λx=>H_ k x.1)=[]:=Ht λz d=>CZ (Cq (o z d) c)
    simp[V7,lst,QY,Qi,c,CZ c,m,n]
   ·rename_i b c;have e:k=x:=by
     by_cases e:k=x
     ·exact e
     ·have:=MD e;simp_all
    subst e;have m:l.lst.filter (λx=>H_ x.1 k)=l.lst:=Et o;have n:l.lst.filter (λx=>H_ k x.1)=[]:=Ht λz d=>CZ (o z d)
    have e3:r.lst.filter (λx=>H_ x.1 k)=[]:=Ht λz d=>CZ (j z d)
    have i:r.lst.filter (λx=>H_ k x.1)=r.lst:=Et j;simp[V7,lst,QY,Qi,CR,m,n,e3,i]
def lst_split(q:Kt):∀t:Tr,Ord t.lst->(split q t).1.lst=t.lst.filter (λx=>H_ x.1 q)∧(split q t).2.lst=t.lst.filter (λx=>!H_ x.1 q)
 |nil,_=>⟨rfl,rfl⟩
 |node l x y r,h=>by
  obtain⟨u,f,o,j⟩:=VN h;unfold split;split
  ·rename_i c;obtain⟨a,b⟩:=lst_split q r f;have m:l.lst.filter (λx=>H_ x.1 q)=l.lst:=Et λz d=>Cq (o z d) c
   have w:l.lst.filter (λx=>!H_ x.1 q)=[]:=Ht λz d=>by rw[Cq (o z d) c];rfl
   simp[Fs,a,b,lst,QY,Qi,c,m,w]
  ·rename_i c;have c:H_ x q=false:=by simpa using c
   obtain⟨a,b⟩:=lst_split q l u;have n:∀z∈r.lst,H_ z.1 q=false:=λz d=>by
    cases hh:H_ z.1 q with
    |false=>rfl
    |true=>rw[Cq (j z d) hh]at c;cases c
   have m:r.lst.filter (λx=>H_ x.1 q)=[]:=Ht n;have w:r.lst.filter (λx=>!H_ x.1 q)=r.lst:=Et λz d=>by rw[n z d];rfl
   simp[Fs,a,b,lst,QY,Qi,c,m,w]
def cnt_lst:∀t:Tr,t.lst.length=t.cnt
 |nil=>rfl
 |node l k v r=>by simp[lst,cnt,cnt_lst l,cnt_lst r];omega
def at_lst:∀(t:Tr)(i:Nat),at_ t i=t.lst[i]?
 |nil,i=>by simp[at_,lst]
 |node l x y r,i=>by
  unfold at_;have d:=cnt_lst l;split
  ·rename_i c;rw[at_lst l i,lst,QP O]
  ·split
   ·rename_i b c;rw[at_lst r,lst,Zh O,d];obtain⟨j,rfl⟩:∃j,i=l.cnt+1+j:=⟨i-(l.cnt+1),O⟩;rw[show l.cnt+1+j-l.cnt=j+1 by omega,List.getElem?_cons_succ];congr 1;omega
   ·rename_i b c;have:i=l.cnt:=by omega
    rw[lst,Zh O,d,this];simp
def PI(l:List (Kt×Kt))(q:Kt):Option Kt:=(l.find? λx=>x.1==q).map (·.2)
def get_lst(q:Kt):∀t:Tr,Ord t.lst->get q t=PI t.lst q
 |nil,_=>rfl
 |node l x y r,h=>by
  obtain⟨u,f,o,j⟩:=VN h;have w:∀{l:List (Kt×Kt)},(∀z∈l,z.1≠q)->l.find? (λx=>x.1==q)=none:=λa=>Zi.2 λz hz=>by simpa using a z hz
  unfold get;split
  ·rename_i c;have e:((x,y)::r.lst).find? (λx=>x.1==q)=none:=w λz hz e=>by
    rcases Qn.1 hz with rfl|hz
    ·simp only at e;subst e;rw[CR]at c;cases c
    ·have:=Cq c (j z hz);rw[e,CR]at this;cases this
   rw[get_lst q l u];simp only[PI,lst,Zk,e,Option.or_none]
  ·split
   ·rename_i b c;have e:l.lst.find? (λx=>x.1==q)=none:=w λz hz e=>by
     have:=Cq (o z hz) c;rw[e,CR]at this;cases this
    have n:(x==q)=false:=by
     cases a:x==q with
     |false=>rfl
     |true=>have:=beq_iff_eq.1 a;subst this;rw[CR]at c;cases c
    rw[get_lst q r f];simp only[PI,lst,Zk,e,Option.none_or,ZL,n]
   ·rename_i b c;have e:x=q:=by
     by_cases e:x=q
     ·exact e
     ·have:=MD e;simp_all
    subst e;have e:l.lst.find? (λz=>z.1==x)=none:=Zi.2 λz hz=>by
     intro e;have:=beq_iff_eq.1 e;have k:=o z hz;rw[this,CR]at k;cases k
    simp[PI,lst,Zk,e,ZL]
end Tr
def aCC{P:Program}{f:FuncId}{N:Nat}{i:DC}{rs:List RV}(b:Fn P f N i rs):(Ac λ_=>none).ok P f:=by
 obtain⟨a,k,q,y,o,j,p,v⟩:=b.is;refine⟨⟨a,q,XI,o⟩,λds m m' fr _=>rfl,?_⟩;intro s w0 w m g fr ds vs r u hi t hl c z;simp[Ac]at z
def qA(S:(List D->Option D)->HD)(b:DC)(rs:List RV)(N:Nat):Nat->List D->Option D
 |0=>λ_=>none
 |n+1=>RF (S (qA S b rs N n)) b rs N
def aB8{P:Program}{f:FuncId}{N:Nat}{b:DC}{rs:List RV}{S:(List D->Option D)->HD}(k:Fn P f N b rs)(g:∀G,(Ac G).ok P f->HD.ok P (S G)):∀n,(Ac (qA S b rs N n)).ok P f
 |0=>aCC k
 |n+1=>An k (g _ (aB8 k g n))
def aIR{P:Program}{f:FuncId}{A:Nat->List D->Option D}(m:List D->Nat)(h:∀n,(Ac (A n)).ok P f):(Ac λds=>A (m ds) ds).ok P f:=by
 refine⟨(h 0).1,λds m m' fr _=>rfl,?_⟩;intro s w0 w m' g fr ds vs r u hi y hl c z;obtain⟨_,_,o⟩:=h (m (ds.map D.un));exact o hi y hl c (by simpa[Ac]using z)
def HV:Tr->D
 | .nil=> .nilptr
 | .node l k v r=> .eptr [.str k,.str v,HV l,HV r,.int .i64 ((Tr.node l k v r).tall:Nat),.int .i64 ((Tr.node l k v r).cnt:Nat),.int .i64 ((Tr.node l k v r).wgt:Nat)]
def cL(t:Tr):(HV t).calm=true:=Xj
def xA(t:Tr):(HV t).calm1=true:=Xj
def aQe(t:Tr):(HV t).un=HV t:=Xj
def aIi(t:Tr):(HV t).un1=HV t:=Xj
def wZ(t:Tr):(HV t).cells=[HV t]:=Xj
def FR:∀{a b:Tr},HV a=HV b->a=b
 | .nil,.nil,_=>rfl
 | .nil,.node _ _ _ _,h=>by simp[HV]at h
 | .node _ _ _ _,.nil,h=>by simp[HV]at h
 | .node l k v r,.node l' k' v' r',h=>by
  simp only[HV,D.eptr.injEq,Qk,D.str.injEq]at h;obtain⟨rfl,rfl,u,y,_⟩:=h;rw[FR u,FR y]
def D.dep:D->Nat
 | .eptr ds=>1+D.depL ds
 |_=>0
where D.depL:List D->Nat
 |[]=>0
 |d::ds=>max d.dep (D.depL ds)
def LN:∀t:Tr,(HV t).dep=t.tall
 | .nil=>rfl
 | .node l k v r=>by
  simp only[HV,D.dep,D.dep.D.depL,LN l,LN r,Tr.tall];omega
def oL(ds:List D):Nat:=2*D.dep.D.depL ds+1
def RT(S:(List D->Option D)->HD)(b:DC)(rs:List RV)(N:Nat)(ds:List D):Option D:=qA S b rs N (oL ds) ds
def rN{P:Program}{f:FuncId}{N:Nat}{b:DC}{rs:List RV}{S:(List D->Option D)->HD}(k:Fn P f N b rs)(g:∀G,(Ac G).ok P f->HD.ok P (S G)):(Ac (RT S b rs N)).ok P f:=
 aIR oL (aB8 k g)
namespace Tr
def eU(a b:Kt):H_ a b=true∨a=b∨H_ b a=true:=by
 by_cases e:a=b
 ·exact .inr (.inl e)
 ·have:=MD e;cases h:H_ a b with
  |true=>exact .inl rfl
  |false=>rw[h]at this;exact .inr (.inr (by cases y:H_ b a<;>simp_all))
def aVI{a b:Kt}(h:H_ a b=true):(a==b)=false:=by
 cases hh:a==b with
 |false=>rfl
 |true=>have:=beq_iff_eq.1 hh;subst this;rw[CR]at h;cases h
def aQP{a b:Kt}(h:H_ a b=true):(b==a)=false:=by
 cases hh:b==a with
 |false=>rfl
 |true=>have:=beq_iff_eq.1 hh;subst this;rw[CR]at h;cases h
def ord_sub{a b:List (Kt×Kt)}(h:a.Sublist b)(k:Ord b):Ord a:=List.Pairwise.sublist h k
def aD5(q:Kt):∀{l:List (Kt×Kt)},Ord l->l.filter (λx=>H_ x.1 q)++l.filter (λx=>H_ q x.1)=l.filter (λx=>x.1 !=q)
 |[],_=>rfl
 |(k,v)::l,h=>by
  obtain⟨u,y⟩:=QM.1 h;have ih:=aD5 q y;rcases eU k q with c|rfl|c
  ·simp only[bne]at ih ⊢;simp[Qi,c,CZ c,aVI c,ih]
  ·have m:l.filter (λx=>H_ x.1 k)=[]:=Ht λz d=>CZ (u z d)
   rw[m]at ih;simp only[bne]at ih ⊢;simp[Qi,CR,m,←ih]
  ·have m:l.filter (λx=>H_ x.1 q)=[]:=Ht λz d=>CZ (Cq c (u z d))
   rw[m]at ih;simp only[bne]at ih ⊢;simp[Qi,c,CZ c,aQP c,m,←ih]
def fil_ge{q v:Kt}:∀{l:List (Kt×Kt)},Ord l->(q,v)∈l->l.filter (λx=>!H_ x.1 q)=(q,v)::l.filter (λx=>H_ q x.1)
 |(k,w)::l,h,hm=>by
  obtain⟨u,y⟩:=QM.1 h;rcases Qn.1 hm with e|hm
  ·cases e;have m:l.filter (λx=>!H_ x.1 q)=l:=Et λz d=>by rw[CZ (u z d)];rfl
   have n:l.filter (λx=>H_ q x.1)=l:=Et λz d=>u z d
   simp[Qi,CR,m,n]
  ·have c:=u _ hm;simp only at c;simp[Qi,c,CZ c,fil_ge y hm]
def getL_some{l:List (Kt×Kt)}{q v:Kt}(h:PI l q=some v):(q,v)∈l:=by
 unfold PI at h;obtain⟨x,u,rfl⟩:=Qx.1 h;have y:=List.find?_some u;have o:=List.mem_of_find?_eq_some u;have:x.1=q:=by simpa using y
 rw[←this];exact o
def UF{l:List (Kt×Kt)}{q:Kt}(h:PI l q=none):∀x∈l,x.1≠q:=by
 unfold PI at h;have u:=Option.map_eq_none_iff.1 h;intro x p e;have:=Zi.1 u x p;simp[e]at this
def getL_mem{l:List (Kt×Kt)}(h:Ord l){q v:Kt}(n:(q,v)∈l):PI l q=some v:=by
 cases hg:PI l q with
 |none=>exact absurd rfl (UF hg _ n)
 |some w=>
  have k:=getL_some hg;rcases Classical.em (w=v)with e|e
  ·rw[e]
  ·exfalso;obtain⟨i,hi,f⟩:=QI n;obtain⟨j,z,a⟩:=QI k;rcases ZE i j with c|c|c
   ·have:=QD.1 h i j hi z c;rw[f,a,CR]at this;cases this
   ·subst c;rw[f]at a;cases a;exact e rfl
   ·have:=QD.1 h j i z hi c;rw[f,a,CR]at this;cases this
def delT(q:Kt)(t:Tr):Tr:=
 match get q t with
 |none=>t
 |some _=>match (split q t).2 with
  |nil=>(split q t).1
  |node a x y b=>both (split q t).1 (first a x y b).2.2
def lst_del(q:Kt)(t:Tr)(h:Ord t.lst):(delT q t).lst=t.lst.filter λx=>x.1 !=q:=by
 unfold delT;rw[get_lst q t h];cases hg:PI t.lst q with
 |none=>exact(Et λz d=>by simpa using UF hg z d).symm
 |some v=>
  have n:=getL_some hg;obtain⟨i,g⟩:=lst_split q t h;rw[fil_ge h n]at g;simp only;cases d:(split q t).2 with
  |nil=>rw[d]at g;cases g
  |node a x y b=>
   rw[d]at g;have k:=GR a x y b;simp only[lst]at g;rw[g]at k;simp only[eT,i,(ZW k).2,aD5 q h]
def beyB:Kt->Option Kt
 |[]=>none
 |x::r=>match beyB r with
  |some e=>some (x::e)
  |none=>if x<255 then some [x+1]else none
def dropT(p:Kt)(t:Tr):Tr:=
 match beyB p with
 |none=>(split p t).1
 |some e=>both (split p t).1 (split e (split p t).2).2
def US(p:Kt)(l:List (Kt×Kt)):List (Kt×Kt):=
 l.filter (λx=>H_ x.1 p)++match beyB p with
  |none=>[]
  |some e=>(l.filter λx=>!H_ x.1 p).filter λx=>!H_ x.1 e
def lst_drop(p:Kt)(t:Tr)(h:Ord t.lst):(dropT p t).lst=US p t.lst:=by
 obtain⟨i,g⟩:=lst_split p t h;unfold dropT US;cases beyB p with
 |none=>simp[i]
 |some e=>
  have:=(lst_split e (split p t).2 (by rw[g];exact ord_sub QX h)).2;simp only[eT,i,this,g]
def tT(p:Kt):∀{l:List (Kt×Kt)},Ord l->l.filter (λx=>H_ x.1 p)++l.filter (λx=>!H_ x.1 p)=l
 |[],_=>rfl
 |(k,v)::l,h=>by
  obtain⟨u,y⟩:=QM.1 h;have ih:=tT p y;cases c:H_ k p with
  |true=>simp[Qi,c,ih]
  |false=>
   have e:∀z∈l,H_ z.1 p=false:=λz d=>by
    cases hh:H_ z.1 p with
    |false=>rfl
    |true=>rw[Cq (u z d) hh]at c;cases c
   have m:l.filter (λx=>H_ x.1 p)=[]:=Ht e;have n:l.filter (λx=>!H_ x.1 p)=l:=Et λz d=>by rw[e z d];rfl
   simp only[Qi,c,m,n];rfl
def drop_sub(p:Kt){l:List (Kt×Kt)}(h:Ord l):(US p l).Sublist l:=by
 unfold US;have e:=tT p h
 conv=>rhs;rw[←e]
 refine List.Sublist.append (List.Sublist.refl _) ?_;cases beyB p with
 |none=>exact List.nil_sublist _
 |some e=>exact QX
def ins_ord{l:List (Kt×Kt)}(h:Ord l)(k v:Kt):Ord (V7 l k v):=by
 refine rW.2 ⟨ord_sub QX h,QM.2 ⟨λx p=>YA,ord_sub QX h⟩,λx p y hy=>?_⟩;have r:H_ x.1 k=true:=YA
 rcases Qn.1 hy with rfl|hy
 ·exact r
 ·exact Cq r (by simpa using (QQ.1 hy).2)
def ins_mem{l:List (Kt×Kt)}{k v:Kt}{x:Kt×Kt}(h:x∈V7 l k v):x=(k,v)∨x∈l:=by
 unfold V7 at h;rcases QH.1 h with h|h
 ·exact .inr (QQ.1 h).1
 ·rcases Qn.1 h with h|h
  ·exact .inl h
  ·exact .inr (QQ.1 h).1
inductive Op1 where
 |put (k v:Kt)
 |del (k:Kt)
 |drop (k:Kt)
def costL(x:Kt×Kt):Nat:=36+x.1.length+min x.2.length 1048576
def weighL(l:List (Kt×Kt)):Nat:=4+(l.map costL).sum
def weigh_len:∀l:List (Kt×Kt),36*l.length+4<=weighL l
 |[]=>by simp[weighL]
 |y::l=>by
  have:=weigh_len l;simp only[weighL,QV,ZQ,Qb,costL]at this ⊢;omega
def tall_cnt:∀t:Tr,t.tall<=t.cnt
 |nil=>Qe _
 |node l k v r=>by have:=tall_cnt l;have:=tall_cnt r;simp only[tall,cnt];omega
def sizeL(l:List (Kt×Kt)):Nat:=(l.map λx=>4+x.1.length+x.2.length).sum
def wgt_lst:∀t:Tr,t.wgt=sizeL t.lst
 |nil=>rfl
 |node l k v r=>by
  have:=wgt_lst l;have:=wgt_lst r;simp only[wgt,lst,sizeL,Zv,List.sum_append,QV,ZQ]at *;omega
end Tr
end Go.Vd
namespace Go.Vd
open Go.Proofs Go.RowKit
def LM:HV .nil= .nilptr:=rfl
section
variable{S:HD}{l r:Tr}{k v:Bs}
def aQd{K:D->HN->Prop}{g:Tag K}:LY (HV (.node l k v r)) K g=K (HV (.node l k v r)) []:=rfl
def aUb:FA 0 (HV (.node l k v r))=some (.eptr [.str k,.str v,HV l,HV r,.int .i64 ((Tr.node l k v r).tall:Nat),.int .i64 ((Tr.node l k v r).cnt:Nat),.int .i64 ((Tr.node l k v r).wgt:Nat)]):=rfl
def aUa:FA 1 (HV (.node l k v r))=some (.eptr [.str v,HV l,HV r,.int .i64 ((Tr.node l k v r).tall:Nat),.int .i64 ((Tr.node l k v r).cnt:Nat),.int .i64 ((Tr.node l k v r).wgt:Nat)]):=rfl
def aT9:FA 2 (HV (.node l k v r))=some (.eptr [HV l,HV r,.int .i64 ((Tr.node l k v r).tall:Nat),.int .i64 ((Tr.node l k v r).cnt:Nat),.int .i64 ((Tr.node l k v r).wgt:Nat)]):=rfl
def aT8:FA 3 (HV (.node l k v r))=some (.eptr [HV r,.int .i64 ((Tr.node l k v r).tall:Nat),.int .i64 ((Tr.node l k v r).cnt:Nat),.int .i64 ((Tr.node l k v r).wgt:Nat)]):=rfl
def aT7:FA 4 (HV (.node l k v r))=some (.eptr [.int .i64 ((Tr.node l k v r).tall:Nat),.int .i64 ((Tr.node l k v r).cnt:Nat),.int .i64 ((Tr.node l k v r).wgt:Nat)]):=rfl
def aT6:FA 5 (HV (.node l k v r))=some (.eptr [.int .i64 ((Tr.node l k v r).cnt:Nat),.int .i64 ((Tr.node l k v r).wgt:Nat)]):=rfl
def aT5:FA 6 (HV (.node l k v r))=some (.eptr [.int .i64 ((Tr.node l k v r).wgt:Nat)]):=rfl
def aT4:Nl 1 (HV (.node l k v r)) .nilptr=some false:=rfl
def aQb:Nl 1 .nilptr .nilptr=some true:=rfl
def Vi(t:Tr):(HV t).calm=true:=cL t
def cK(t:Tr):(HV t).calmR=true:=Xj
def aQc(t:Tr):(HV t).unR=HV t:=Xj
def aIe(t:Tr):(HV t).data=true:=Xj
def aI3:D.calm .nilptr=true:=rfl
def aVj:D.un .nilptr= .nilptr:=rfl
def aCA:D.cells .nilptr=[.nilptr]:=rfl
def aCB:D.calm1 .nilptr=true:=rfl
def aQH:D.un1 .nilptr= .nilptr:=rfl
end
def HP:=Qq @aQd <| Qq @aUb <| Qq @aUa <| Qq @aT9 <| Qq @aT8 <| Qq @aT7 <| Qq @aT6 <| Qq @aT5 <| Qq @aT4 <| Qq @aQb <| Qq Vi <| Qq cK <| Qq aQc <| Qq aIe <| Qq aQe <| Qq aIi <| Qq xA <| Qq wZ <| Qq aI3 <| Qq aVj <| Qq aCA <| Qq aCB <| Qq aQH LM
def aXQ:=Aq []
def jH:=RF aXQ aEz [.t 2] 9
def nA:Kq jH 256:=An (Aj func256) Ad
def Dp(t:Tr):jH [HV t]=some (.int .i64 (t.tall:Nat)):=by
 refine Am (Qa rfl) ?_;unfold aEz;cases t with
 |nil=>
  simp only[HG,↓C2,HB,simprocAttr,HP,bne_self_eq_false]
  all_goals exact Y2
 |node l k v r=>
  simp only[HG,↓C2,HB,simprocAttr,HP]
  all_goals exact Y2
def aXX:=Aq []
def N7:=RF aXX aEM [.t 2] 9
def V2:Kq N7 104:=An (Aj func104) Ad
def LE(t:Tr):N7 [HV t]=some (.int .i64 (t.cnt:Nat)):=by
 refine Am (Qa rfl) ?_;unfold aEM;cases t with
 |nil=>
  simp only[HG,↓C2,HB,simprocAttr,HP,bne_self_eq_false]
  all_goals exact Y2
 |node l k v r=>
  simp only[HG,↓C2,HB,simprocAttr,HP]
  all_goals exact Y2
def aXU:=Aq []
def aGv:=RF aXU aEG [.t 2] 9
def aDf:Kq aGv 172:=An (Aj func172) Ad
def S4(t:Tr):aGv [HV t]=some (.int .i64 (t.wgt:Nat)):=by
 refine Am (Qa rfl) ?_;unfold aEG;cases t with
 |nil=>
  simp only[HG,↓C2,HB,simprocAttr,HP,bne_self_eq_false]
  all_goals exact Y2
 |node l k v r=>
  simp only[HG,↓C2,HB,simprocAttr,HP]
  all_goals exact Y2
def mkN(p:Tr×Bs×Bs×Tr):List D:=[HV p.1,.str p.2.1,.str p.2.2.1,HV p.2.2.2]
def aJb(x y)(h:mkN x=mkN y):x=y:=by
 obtain⟨a,b,c,d⟩:=x;obtain⟨k,z,c',n⟩:=y;simp only[mkN,Qk,D.str.injEq,and_true]at h;obtain⟨u,rfl,rfl,f⟩:=h;rw[FR u,FR f]
def aMx(l:Tr)(k v:Bs)(r:Tr):Prop:=l.cnt+r.cnt<=1000000∧l.wgt+r.wgt+k.length+v.length<=1000000000000
def LJ:List D->Option D:=FX mkN (λp=>aMx p.1 p.2.1 p.2.2.1 p.2.2.2) λp=>HV (.node p.1 p.2.1 p.2.2.1 p.2.2.2)
def H7{l:Tr}{k v:Bs}{r:Tr}(h:aMx l k v r):LJ [HV l,.str k,.str v,HV r]=some (HV (.node l k v r)):=Ca (mk:=mkN) (a:=(l,k,v,r)) aJb h
def Oy:Kq LJ 202:=by
 obtain⟨S,s,hl⟩:=By (Aa nA (Aa V2 (Aa aDf Ad)));have e:=hl 256 _ rfl;have z:=hl 104 _ rfl;have a:=hl 172 _ rfl;clear hl;refine aDV s (Aj func202:Fn Qc 202 39 aEC [.t 8]) (λ_=>by simp[mkN]) (λp g=>⟨cK _,?_⟩);obtain⟨l,k,v,r⟩:=p;obtain⟨d,u⟩:=g;simp only at d u;have t1:=Tr.tall_cnt l;have f:=Tr.tall_cnt r;have a1:=Dp l;have y:=Dp r;have q:=LE l;have b2:=LE r;have c1:=S4 l;have c2:=S4 r;have c:IntKind.i64.wrap (1+max (l.tall:Int) r.tall)=((1+max l.tall r.tall:Nat):Int):=Xi
 have n:IntKind.i64.wrap (1+(l.cnt:Int))=((1+l.cnt:Nat):Int):=Xi
 have e3:IntKind.i64.wrap (((1+l.cnt:Nat):Int)+r.cnt)=((1+l.cnt+r.cnt:Nat):Int):=Xi
 have b:IntKind.i64.wrap (4+(k.length:Int))=((4+k.length:Nat):Int):=Xi
 have e5:IntKind.i64.wrap (((4+k.length:Nat):Int)+v.length)=((4+k.length+v.length:Nat):Int):=Xi
 have e6:IntKind.i64.wrap (((4+k.length+v.length:Nat):Int)+l.wgt)=((4+k.length+v.length+l.wgt:Nat):Int):=Xi
 have e7:IntKind.i64.wrap (((4+k.length+v.length+l.wgt:Nat):Int)+r.wgt)=((4+k.length+v.length+l.wgt+r.wgt:Nat):Int):=Xi
 unfold aEC mkN;simp only;simp only[HG,↓C2,HB,simprocAttr,HP,Ab e,Ab z,Ab a,a1,y,q,b2,c1,c2,c,n,e3,b,e5,e6,e7];refine .inl ⟨Vi _,.inl (.inr (.inr ⟨_,_,rfl,rfl,?_,?_⟩))⟩
 ·intro x w;simp only[Qn,Zl,or_false]at w;rcases w with rfl|rfl|rfl|rfl|rfl|rfl|rfl
  all_goals (first|rfl|exact Vi _)
 ·intro j x w;have hl:=(Qy.1 w).1;have g:=aE (m:=λ_ _=>none) (i:=[30]) (o:=0) (ds:=[D.str k,D.str v,HV l,HV r,D.int IntKind.i64 ((Tr.node l k v r).tall:Nat),D.int IntKind.i64 ((Tr.node l k v r).cnt:Nat),D.int IntKind.i64 ((Tr.node l k v r).wgt:Nat)]) (j:=j) hl;rw[Qj]at g;rw[←w];exact g
def aEy:=y2 f257 [(2,[(16,20),(16,24),(16,28)])] []
def aEx:=y2 Tryz.f258 [(2,[(28,3),(28,7),(28,11)])] []
def aEB:=y2 f203 [(1,[(4,8)]),(3,[(7,11),(7,14)]),(4,[(4,8),(4,12),(4,16)]),(7,[(7,11),(7,14)]),(8,[(16,3),(16,7),(16,11)])] []
namespace Tr
def cnt_level(l:Tr)(k v:Kt)(r:Tr):(level l k v r).cnt=1+l.cnt+r.cnt:=by
 rw[←cnt_lst,E9,Qh,Qb,cnt_lst,cnt_lst];omega
def cnt_join(l:Tr)(k v:Kt)(r:Tr):(join l k v r).cnt=1+l.cnt+r.cnt:=by
 rw[←cnt_lst,Fs,Qh,Qb,cnt_lst,cnt_lst];omega
def Na(a b:List (Kt×Kt)):sizeL (a++b)=sizeL a+sizeL b:=by simp[sizeL]
def size_cons(k v:Kt)(b:List (Kt×Kt)):sizeL ((k,v)::b)=4+k.length+v.length+sizeL b:=by simp[sizeL]
def wgt_level(l:Tr)(k v:Kt)(r:Tr):(level l k v r).wgt=4+k.length+v.length+l.wgt+r.wgt:=by
 rw[wgt_lst,E9,Na,size_cons,wgt_lst l,wgt_lst r];omega
def wgt_join(l:Tr)(k v:Kt)(r:Tr):(join l k v r).wgt=4+k.length+v.length+l.wgt+r.wgt:=by
 rw[wgt_lst,Fs,Na,size_cons,wgt_lst l,wgt_lst r];omega
def cnt_first(l:Tr)(k v:Kt)(r:Tr):(first l k v r).2.2.cnt=l.cnt+r.cnt:=by
 have:=congrArg ZT (GR l k v r);rw[Qb,Qh,Qb,cnt_lst,cnt_lst,cnt_lst]at this;omega
def wgt_first(l:Tr)(k v:Kt)(r:Tr):4+(first l k v r).1.length+(first l k v r).2.1.length+(first l k v r).2.2.wgt=4+k.length+v.length+l.wgt+r.wgt:=by
 have:=congrArg sizeL (GR l k v r);rw[Na,size_cons,size_cons,←wgt_lst,←wgt_lst,←wgt_lst]at this;omega
def Hg(q:Kt):∀t:Tr,(split q t).1.lst++(split q t).2.lst=t.lst
 |nil=>rfl
 |node l x y r=>by
  unfold split;split
  ·have:=Hg q r;simp only[Fs,lst];rw[←this];simp
  ·have:=Hg q l;simp only[Fs,lst];rw[←this];simp
def cnt_split(q:Kt)(t:Tr):(split q t).1.cnt+(split q t).2.cnt=t.cnt:=by
 rw[←cnt_lst,←cnt_lst,←cnt_lst,←Qh,Hg]
def wgt_split(q:Kt)(t:Tr):(split q t).1.wgt+(split q t).2.wgt=t.wgt:=by
 rw[wgt_lst,wgt_lst,wgt_lst t,←Na,Hg]
end Tr
def bS(t:Tr):Prop:=t.cnt<=900000∧t.wgt<=900000000000
def aPn:=Aq [(202,Ac LJ)]
def aGr:=RF aPn aEy [.t 2] 38
def aQ5:Kq aGr 257:=An (Aj func257) (Aa Oy Ad)
def S2{l:Tr}{k v:Bs}{a:Tr}{x y:Bs}{b:Tr}(h:bS (.node l k v (.node a x y b))):aGr [HV (.node l k v (.node a x y b))]=some (HV (.node (.node l k v a) x y b)):=by
 refine Am (Qa rfl) ?_;unfold aEy;simp only[bS,Tr.cnt,Tr.wgt]at h;have m:=H7 (l:=l) (k:=k) (v:=v) (r:=a) ⟨O,O⟩;have n:=H7 (l:= .node l k v a) (k:=x) (v:=y) (r:=b) ⟨Xh,Xg⟩;simp only[HG,↓C2,HB,simprocAttr,HP,Ae aPn 202,m,n]
 (refine aB (Al ?_) ?_;first|rfl|simp[AK,AA,H3,Ai,Ac])
 simp only[HG,↓C2,HB,simprocAttr,HP]
 all_goals exact Y2
def aPm:=Aq [(202,Ac LJ)]
def aGq:=RF aPm aEx [.t 2] 38
def aQ4:Kq aGq 258:=An (Aj func258) (Aa Oy Ad)
def S1{a:Tr}{x y:Bs}{b:Tr}{k v:Bs}{r:Tr}(h:bS (.node (.node a x y b) k v r)):aGq [HV (.node (.node a x y b) k v r)]=some (HV (.node a x y (.node b k v r))):=by
 refine Am (Qa rfl) ?_;unfold aEx;simp only[bS,Tr.cnt,Tr.wgt]at h;have m:=H7 (l:=b) (k:=k) (v:=v) (r:=r) ⟨O,O⟩;have n:=H7 (l:=a) (k:=x) (v:=y) (r:= .node b k v r) ⟨Xh,Xg⟩;simp only[HG,↓C2,HB,simprocAttr,HP,Ae aPm 202,m,n]
 (refine aB (Al ?_) ?_;first|rfl|simp[AK,AA,H3,Ai,Ac])
 simp only[HG,↓C2,HB,simprocAttr,HP]
 all_goals exact Y2
def Ec:HD:=Aq [(256,Ac jH),(257,Ac aGr),(258,Ac aGq),(202,Ac LJ)]
def PC:List D->Option D:=RF Ec aEB [.t 2] 96
def nB:Kq PC 203:=An (Aj func203) (Aa nA (Aa aQ5 (Aa aQ4 (Aa Oy Ad))))
def LD(l:Tr)(k v:Bs)(r:Tr)(h:bS (.node l k v r)):PC [HV (.node l k v r)]=some (HV (Tr.level l k v r)):=by
 refine Am (Qa rfl) ?_;unfold aEB;have g:=Dp l;have f:=Dp r;have m1:=Tr.tall_cnt l;have i:=Tr.tall_cnt r;have c:=h;simp only[bS,Tr.cnt,Tr.wgt]at h;have j:IntKind.i64.wrap ((l.tall:Int)-r.tall)=(l.tall:Int)-r.tall:=H9 O O;unfold Tr.level;by_cases c1:r.tall+1<l.tall
 ·rw[if_pos c1];have o:((1:Int)<(l.tall:Int)-r.tall)=True:=eq_true O;cases l with
  |nil=>simp[Tr.tall]at c1
  |node a x y b=>
   have e:=Dp a;have d:=Dp b;simp only[Tr.cnt,Tr.wgt]at h;simp only;by_cases c2:a.tall<b.tall
   ·rw[if_pos c2];have z:((a.tall:Int)<b.tall)=True:=eq_true O;cases b with
    |nil=>simp[Tr.tall]at c2
    |node p q s u=>
     simp only[Tr.cnt,Tr.wgt]at h;have m:=S2 (l:=a) (k:=x) (v:=y) (a:=p) (x:=q) (y:=s) (b:=u) ⟨Xh,Xg⟩;have n:=H7 (l:= .node (.node a x y p) q s u) (k:=k) (v:=v) (r:=r) ⟨Xh,Xg⟩;have t:=S1 (a:= .node a x y p) (x:=q) (y:=s) (b:=u) (k:=k) (v:=v) (r:=r) ⟨Xh,Xg⟩;simp only[Tr.rotL,Tr.rotR];simp only[HG,↓C2,HB,simprocAttr,HP,Ae Ec 256,g,f,j]
     (refine aB (Al ?_) ?_;first|rfl|simp[AK,AA,H3,Ai,Ac])
     simp only[HG,↓C2,HB,simprocAttr,HP,o,Ae Ec 256,e,d]
     (refine aB (Al ?_) ?_;first|rfl|simp[AK,AA,H3,Ai,Ac])
     simp only[HG,↓C2,HB,simprocAttr,HP,z,Ae Ec 257,Ae Ec 202,m,n]
     (refine aB (Al ?_) ?_;first|rfl|simp[AK,AA,H3,Ai,Ac])
     simp only[HG,↓C2,HB,simprocAttr,HP,Ae Ec 258,t]
     all_goals exact Y2
   ·rw[if_neg c2];have z:((a.tall:Int)<b.tall)=False:=eq_false O;have t:=S1 (a:=a) (x:=x) (y:=y) (b:=b) (k:=k) (v:=v) (r:=r) c;simp only[Tr.rotR];simp only[HG,↓C2,HB,simprocAttr,HP,Ae Ec 256,g,f,j]
    (refine aB (Al ?_) ?_;first|rfl|simp[AK,AA,H3,Ai,Ac])
    simp only[HG,↓C2,HB,simprocAttr,HP,o,Ae Ec 256,e,d]
    (refine aB (Al ?_) ?_;first|rfl|simp[AK,AA,H3,Ai,Ac])
    simp only[HG,↓C2,HB,simprocAttr,HP,z,Ae Ec 258,t]
    all_goals exact Y2
 ·rw[if_neg c1];have o:((1:Int)<(l.tall:Int)-r.tall)=False:=eq_false O;by_cases w:l.tall+1<r.tall
  ·rw[if_pos w];have d3:((l.tall:Int)-r.tall< -1)=True:=eq_true O;cases r with
   |nil=>simp[Tr.tall]at w
   |node a x y b=>
    have e:=Dp a;have d:=Dp b;simp only[Tr.cnt,Tr.wgt]at h;simp only;by_cases c2:b.tall<a.tall
    ·rw[if_pos c2];have z:((b.tall:Int)<a.tall)=True:=eq_true O;cases a with
     |nil=>simp[Tr.tall]at c2
     |node p q s u=>
      simp only[Tr.cnt,Tr.wgt]at h;have m:=S1 (a:=p) (x:=q) (y:=s) (b:=u) (k:=x) (v:=y) (r:=b) ⟨Xh,Xg⟩;have n:=H7 (l:=l) (k:=k) (v:=v) (r:= .node p q s (.node u x y b)) ⟨Xh,Xg⟩;have t:=S2 (l:=l) (k:=k) (v:=v) (a:=p) (x:=q) (y:=s) (b:= .node u x y b) ⟨Xh,Xg⟩;simp only[Tr.rotL,Tr.rotR];simp only[HG,↓C2,HB,simprocAttr,HP,Ae Ec 256,g,f,j]
      (refine aB (Al ?_) ?_;first|rfl|simp[AK,AA,H3,Ai,Ac])
      simp only[HG,↓C2,HB,simprocAttr,HP,o,d3,Ae Ec 256,e,d]
      (refine aB (Al ?_) ?_;first|rfl|simp[AK,AA,H3,Ai,Ac])
      simp only[HG,↓C2,HB,simprocAttr,HP,z,Ae Ec 258,Ae Ec 202,m,n]
      (refine aB (Al ?_) ?_;first|rfl|simp[AK,AA,H3,Ai,Ac])
      simp only[HG,↓C2,HB,simprocAttr,HP,Ae Ec 257,t]
      all_goals exact Y2
    ·rw[if_neg c2];have z:((b.tall:Int)<a.tall)=False:=eq_false O;have t:=S2 (l:=l) (k:=k) (v:=v) (a:=a) (x:=x) (y:=y) (b:=b) c;simp only[Tr.rotL];simp only[HG,↓C2,HB,simprocAttr,HP,Ae Ec 256,g,f,j]
     (refine aB (Al ?_) ?_;first|rfl|simp[AK,AA,H3,Ai,Ac])
     simp only[HG,↓C2,HB,simprocAttr,HP,o,d3,Ae Ec 256,e,d]
     (refine aB (Al ?_) ?_;first|rfl|simp[AK,AA,H3,Ai,Ac])
     simp only[HG,↓C2,HB,simprocAttr,HP,z,Ae Ec 257,t]
     all_goals exact Y2
  ·rw[if_neg w];have d3:((l.tall:Int)-r.tall< -1)=False:=eq_false O;simp only[HG,↓C2,HB,simprocAttr,HP,Ae Ec 256,g,f,j]
   (refine aB (Al ?_) ?_;first|rfl|simp[AK,AA,H3,Ai,Ac])
   simp only[HG,↓C2,HB,simprocAttr,HP,o,d3]
   all_goals exact Y2
def OP:=y2 f233 [(2,[(19,3),(19,7),(19,11)]),(4,[(7,11),(7,15),(7,19)])] []
def OS:=y2 f138 [(5,[(6,10),(6,14),(6,18)]),(7,[(18,3),(18,7),(18,11)])] []
def OQ:=y2 f158 [] []
def aEJ:=y2 f159 [] []
def OR:=y2 f157 [] []
def aWQ(l r:Tr)(k v:Bs):l.tall+r.tall<oL [HV l,.str k,.str v,HV r]:=by
 simp only[oL,D.dep.D.depL,D.dep,LN];omega
def N3(G:List D->Option D):HD:=Aq [(256,Ac jH),(202,Ac LJ),(203,Ac PC),(233,Ac G)]
def jJ:=RT N3 OP [.t 8] 72
def aDd:Kq jJ 233:=rN (Aj func233) λG h=>Aa nA (Aa Oy (Aa nB (Aa h Ad)))
def aMW:∀(n:Nat)(l:Tr)(k v:Bs)(r:Tr),l.tall+r.tall<n->bS (.node l k v r)->qA N3 OP [.t 8] 72 n [HV l,.str k,.str v,HV r]=some (HV (Tr.join l k v r))
 |0,l,k,v,r,h,_=>O
 |n+1,l,k,v,r,hn,h=>by
  show RF (N3 (qA N3 OP [.t 8] 72 n)) OP [.t 8] 72 _=_;refine Am (Qa rfl) ?_;have ih:=aMW n;generalize qA N3 OP [.t 8] 72 n=G at ih ⊢;have e:N3 G 256=some (Ac jH):=rfl;have c:N3 G 202=some (Ac LJ):=rfl;have d:N3 G 203=some (Ac PC):=rfl;have f:N3 G 233=some (Ac G):=rfl;have g:=Dp l;have i:=Dp r;have m1:=Tr.tall_cnt l;have m2:=Tr.tall_cnt r;simp only[bS,Tr.cnt,Tr.wgt]at h;have m:IntKind.i64.wrap ((r.tall:Int)+1)=(r.tall:Int)+1:=H9 O O;have z:IntKind.i64.wrap ((l.tall:Int)+1)=(l.tall:Int)+1:=H9 O O;unfold OP Tr.join;by_cases c1:r.tall+1<l.tall
  ·rw[if_pos c1];have u:((r.tall:Int)+1<l.tall)=True:=eq_true O;cases l with
   |nil=>simp[Tr.tall]at c1
   |node a x y b=>
    simp only[Tr.cnt,Tr.wgt]at h;have q:b.tall+r.tall<n:=by simp only[Tr.tall]at hn;omega
    have o:=ih b k v r q ⟨Xh,Xg⟩;have j:=Tr.cnt_join b k v r;have s:=Tr.wgt_join b k v r;have w:=H7 (l:=a) (k:=x) (v:=y) (r:=Tr.join b k v r) ⟨O,O⟩;have i3:=LD a x y (Tr.join b k v r) ⟨Xh,Xg⟩;simp only;simp only[HG,↓C2,HB,simprocAttr,HP,Ab e,g,i,m,u,Ab f,Ab c,Ab d,o,w,i3]
    (refine aB (Al ?_) ?_;first|rfl|simp[AK,AA,H3,Ai,Ac])
    simp only[HG,↓C2,HB,simprocAttr,HP]
    all_goals exact Y2
  ·rw[if_neg c1];have u:((r.tall:Int)+1<l.tall)=False:=eq_false O;by_cases c2:l.tall+1<r.tall
   ·rw[if_pos c2];have p:((l.tall:Int)+1<r.tall)=True:=eq_true O;cases r with
    |nil=>simp[Tr.tall]at c2
    |node a x y b=>
     simp only[Tr.cnt,Tr.wgt]at h;have q:l.tall+a.tall<n:=by simp only[Tr.tall]at hn;omega
     have o:=ih l k v a q ⟨Xh,Xg⟩;have j:=Tr.cnt_join l k v a;have s:=Tr.wgt_join l k v a;have w:=H7 (l:=Tr.join l k v a) (k:=x) (v:=y) (r:=b) ⟨O,O⟩;have i3:=LD (Tr.join l k v a) x y b ⟨Xh,Xg⟩;simp only;simp only[HG,↓C2,HB,simprocAttr,HP,Ab e,g,i,m,z,u,p,Ab f,Ab c,Ab d,o,w,i3]
     (refine aB (Al ?_) ?_;first|rfl|simp[AK,AA,H3,Ai,Ac])
     simp only[HG,↓C2,HB,simprocAttr,HP]
     all_goals exact Y2
   ·rw[if_neg c2];have p:((l.tall:Int)+1<r.tall)=False:=eq_false O;have w:=H7 (l:=l) (k:=k) (v:=v) (r:=r) ⟨O,O⟩;simp only[HG,↓C2,HB,simprocAttr,HP,Ab e,g,i,m,z,u,p,Ab c,w]
    all_goals exact Y2
def S3(l:Tr)(k v:Bs)(r:Tr)(h:bS (.node l k v r)):jJ [HV l,.str k,.str v,HV r]=some (HV (Tr.join l k v r)):=aMW _ l k v r (aWQ l r k v) h
def V_{a b:Bs}:(C0 a b<0)=(H_ a b=true):=by
 unfold C0 H_;by_cases h:Op.bytesLess a b=true
 ·rw[if_pos h,h];exact propext ⟨λ_=>rfl,λ_=>O⟩
 ·rw[if_neg h];refine propext ⟨λy=>?_,λy=>absurd y h⟩;split at y<;>omega
def WC{a b:Bs}:(0<C0 a b)=(H_ b a=true):=by
 unfold C0;by_cases h:Op.bytesLess a b=true
 ·rw[if_pos h];have:=CZ (a:=a) (b:=b) h;simp only[this];exact propext ⟨λh=>O,λh=>Xc⟩
 ·rw[if_neg h];by_cases e:a=b
  ·subst e;rw[if_pos rfl,CR];exact propext ⟨λh=>O,λh=>Xc⟩
  ·rw[if_neg e];have:=MD e;have c:H_ a b=false:=by simpa using h
   rw[c]at this;have y:H_ b a=true:=by
    cases hh:H_ b a with
    |true=>rfl
    |false=>rw[hh]at this;cases this
   rw[y];exact propext ⟨λ_=>rfl,λ_=>O⟩
def N4(G:List D->Option D):HD:=Aq [(62,Ac PM),(202,Ac LJ),(203,Ac PC),(138,Ac G)]
def aGB:=RT N4 OS [.t 6] 78
def aRa:Kq aGB 138:=rN (Aj func138) λG h=>Aa sC (Aa Oy (Aa nB (Aa h Ad)))
def NW(k v:Bs):∀t:Tr,(t.put k v).cnt<=1+t.cnt∧(t.put k v).wgt<=4+k.length+v.length+t.wgt
 | .nil=>by simp[Tr.put,Tr.cnt,Tr.wgt]
 | .node l x y r=>by
  have u:=NW k v l;have f:=NW k v r;unfold Tr.put;split
  ·rw[Tr.cnt_level,Tr.wgt_level];simp only[Tr.cnt,Tr.wgt];omega
  split
  ·rw[Tr.cnt_level,Tr.wgt_level];simp only[Tr.cnt,Tr.wgt];omega
  ·rename_i c1 c2;have e:k=x:=by
    by_cases e:k=x
    ·exact e
    ·have:=MD e;simp_all
   subst e;simp only[Tr.cnt,Tr.wgt];omega
def aMZ:∀(n:Nat)(t:Tr)(k v:Bs),t.tall<n->t.cnt<=800000->t.wgt+k.length+v.length<=800000000000->qA N4 OS [.t 6] 78 n [HV t,.str k,.str v]=some (HV (t.put k v))
 |0,t,k,v,h,_,_=>O
 |n+1,t,k,v,hn,hc,hw=>by
  show RF (N4 (qA N4 OS [.t 6] 78 n)) OS [.t 6] 78 _=_;refine Am (Qa rfl) ?_;have ih:=aMZ n;generalize qA N4 OS [.t 6] 78 n=G at ih ⊢;have z:N4 G 62=some (Ac PM):=rfl;have c:N4 G 202=some (Ac LJ):=rfl;have d:N4 G 203=some (Ac PC):=rfl;have a:N4 G 138=some (Ac G):=rfl;unfold OS;cases t with
  |nil=>
   have o:=H7 (l:= .nil) (k:=k) (v:=v) (r:= .nil) ⟨by simp[Tr.cnt],by simp only[Tr.wgt]at hw ⊢;omega⟩;rw[LM]at o;simp only[Tr.put];simp only[HG,↓C2,HB,simprocAttr,HP,bne_self_eq_false,Ab c,o]
   all_goals exact Y2
  |node l x y r=>
   simp only[Tr.cnt,Tr.wgt,Tr.tall]at hn hc hw;have j:PM [.str k,.str x]=some (.int .i64 (C0 k x)):=rfl;have g:=NW k v l;have e:=NW k v r;unfold Tr.put;by_cases c1:H_ k x=true
   ·rw[if_pos c1];have u:(C0 k x<0)=True:=by rw[V_];exact eq_true c1
    have o:=ih l k v O O O;have w:=H7 (l:=l.put k v) (k:=x) (v:=y) (r:=r) ⟨O,O⟩;have i:=LD (l.put k v) x y r ⟨Xh,Xg⟩;simp only[HG,↓C2,HB,simprocAttr,HP,Ab z,j,u,Ab a,Ab c,Ab d,o,w,i]
    (refine aB (Al ?_) ?_;first|rfl|simp[AK,AA,H3,Ai,Ac])
    simp only[HG,↓C2,HB,simprocAttr,HP]
    all_goals exact Y2
   ·rw[if_neg c1];have u:(C0 k x<0)=False:=by rw[V_];exact eq_false c1
    by_cases c2:H_ x k=true
    ·rw[if_pos c2];have p:(0<C0 k x)=True:=by rw[WC];exact eq_true c2
     have o:=ih r k v O O O;have w:=H7 (l:=l) (k:=x) (v:=y) (r:=r.put k v) ⟨O,O⟩;have i:=LD l x y (r.put k v) ⟨Xh,Xg⟩;simp only[HG,↓C2,HB,simprocAttr,HP,Ab z,j,u,p,Ab a,Ab c,Ab d,o,w,i]
     (refine aB (Al ?_) ?_;first|rfl|simp[AK,AA,H3,Ai,Ac])
     simp only[HG,↓C2,HB,simprocAttr,HP]
     all_goals exact Y2
    ·rw[if_neg c2];have p:(0<C0 k x)=False:=by rw[WC];exact eq_false c2
     have w:=H7 (l:=l) (k:=k) (v:=v) (r:=r) ⟨O,O⟩;simp only[HG,↓C2,HB,simprocAttr,HP,Ab z,j,u,p,Ab c,w]
     (refine aB (Al ?_) ?_;first|rfl|simp[AK,AA,H3,Ai,Ac])
     simp only[HG,↓C2,HB,simprocAttr,HP]
     all_goals exact Y2
def aGA(t:Tr)(k v:Bs)(d:t.cnt<=800000)(p:t.wgt+k.length+v.length<=800000000000):aGB [HV t,.str k,.str v]=some (HV (t.put k v)):=
 aMZ _ t k v YE d p
def aEU:=y2 f83 [] []
def aET:=y2 f89 [] []
def aES:=y2 f90 [] []
def NQ:=y3 f39 2 [] []
def aE7:=y2 f39 [] [(2,NQ)]
def NS:=y3 f27 2 [] []
def aFc:=y2 f27 [] [(2,NS)]
def NO:=y3 f49 3 [] []
def aE3:=y2 f49 [] [(3,NO)]
def NN:=y3 f50 4 [] []
def aE2:=y2 f50 [] [(4,NN)]
def aEO:=y2 f102 [] []
def aEN:=y2 f103 [] []
def NG:=y3 f160 2 [] []
def aEI:=y2 f160 [] [(2,NG)]
def aE1:=y2 f51 [] []
def PA(G:List D->Option D):HD:=Aq [(202,Ac LJ),(203,Ac PC),(158,Ac G)]
def vT:=RT PA OQ [.t 2,.t 3,.t 4] 48
def aDh:Kq vT 158:=rN (Aj func158) λG h=>Aa Oy (Aa nB (Aa h Ad))
def aRY(z:Bs×Bs×Tr):D:= .tup [.str z.1,.str z.2.1,HV z.2.2]
def aMX:∀(n:Nat)(l:Tr)(k v:Bs)(r:Tr),(Tr.node l k v r).tall<n->bS (.node l k v r)->qA PA OQ [.t 2,.t 3,.t 4] 48 n [HV (.node l k v r)]=some (aRY (Tr.first l k v r))
 |0,l,k,v,r,h,_=>O
 |n+1,l,k,v,r,hn,h=>by
  show RF (PA (qA PA OQ [.t 2,.t 3,.t 4] 48 n)) OQ [.t 2,.t 3,.t 4] 48 _=_;refine Am (Qa rfl) ?_;have ih:=aMX n;generalize qA PA OQ [.t 2,.t 3,.t 4] 48 n=G at ih ⊢;have c:PA G 202=some (Ac LJ):=rfl;have d:PA G 203=some (Ac PC):=rfl;have e:PA G 158=some (Ac G):=rfl;simp only[bS,Tr.cnt,Tr.wgt]at h;unfold OQ Tr.first;cases l with
  |nil=>
   unfold aRY;simp only[HG,↓C2,HB,simprocAttr,HP,bne_self_eq_false]
   (refine aB (Al ?_) ?_;first|rfl|simp[AK,AA,H3,Ai,Ac])
   simp only[HG,↓C2,HB,simprocAttr,HP]
   all_goals exact Y2
  |node a x y b=>
   simp only[Tr.cnt,Tr.wgt]at h;have o:=ih a x y b (by simp only[Tr.tall]at hn ⊢;omega) ⟨Xh,Xg⟩;have j:=Tr.cnt_first a x y b;have z:=Tr.wgt_first a x y b;unfold aRY at o ⊢;have w:=H7 (l:=(Tr.first a x y b).2.2) (k:=k) (v:=v) (r:=r) ⟨O,O⟩;have i:=LD (Tr.first a x y b).2.2 k v r ⟨Xh,Xg⟩;simp only[HG,↓C2,HB,simprocAttr,HP,Ab e,o,Ab c,Ab d,w,i]
   (refine aB (Al ?_) ?_;first|rfl|simp[AK,AA,H3,Ai,Ac])
   simp only[HG,↓C2,HB,simprocAttr,HP]
   all_goals exact Y2
def jN(l:Tr)(k v:Bs)(r:Tr)(h:bS (.node l k v r)):vT [HV (.node l k v r)]=some (.tup [.str (Tr.first l k v r).1,.str (Tr.first l k v r).2.1,HV (Tr.first l k v r).2.2]):=
 aMX _ l k v r (by simp only[oL,D.dep.D.depL,LN];omega) h
def aGc:=Aq [(158,Ac vT),(233,Ac jJ)]
def vS:=RF aGc aEJ [.t 4] 22
def aDg:Kq vS 159:=An (Aj func159) (Aa aDh (Aa aDd Ad))
def jM(l r:Tr)(d:l.cnt+r.cnt<=900000)(k:l.wgt+r.wgt<=900000000000):vS [HV l,HV r]=some (HV (Tr.both l r)):=by
 refine Am (Qa rfl) ?_;unfold aEJ;cases r with
 |nil=>
  simp only[HG,↓C2,HB,simprocAttr,HP,bne_self_eq_false]
  all_goals exact Y2
 |node a x y b=>
  simp only[Tr.cnt,Tr.wgt]at d k;have o:=jN a x y b ⟨Xh,Xg⟩;have j:=Tr.cnt_first a x y b;have z:=Tr.wgt_first a x y b;have w:=S3 l (Tr.first a x y b).1 (Tr.first a x y b).2.1 (Tr.first a x y b).2.2 ⟨Xh,Xg⟩;unfold Tr.both;simp only;simp only[HG,↓C2,HB,simprocAttr,HP,Ae aGc 158,o,Ae aGc 233,w]
  all_goals exact Y2
def SZ(G:List D->Option D):HD:=Aq [(233,Ac jJ),(157,Ac G)]
def vU:=RT SZ OR [.t 4,.t 5] 66
def aDi:Kq vU 157:=rN (Aj func157) λG h=>Aa aDd (Aa h Ad)
def aIp(z:Tr×Tr):D:= .tup [HV z.1,HV z.2]
def aMY:∀(n:Nat)(t:Tr)(q:Bs),t.tall<n->bS t->qA SZ OR [.t 4,.t 5] 66 n [HV t,.str q]=some (aIp (t.split q))
 |0,t,q,h,_=>O
 |n+1,t,q,hn,h=>by
  show RF (SZ (qA SZ OR [.t 4,.t 5] 66 n)) OR [.t 4,.t 5] 66 _=_;refine Am (Qa rfl) ?_;have ih:=aMY n;generalize qA SZ OR [.t 4,.t 5] 66 n=G at ih ⊢;have f:SZ G 233=some (Ac jJ):=rfl;have a:SZ G 157=some (Ac G):=rfl;unfold OR;cases t with
  |nil=>
   unfold Tr.split aIp;simp only[HG,↓C2,HB,simprocAttr,HP,bne_self_eq_false]
   all_goals exact Y2
  |node l x y r=>
   simp only[bS,Tr.cnt,Tr.wgt,Tr.tall]at hn h;unfold Tr.split;by_cases c1:H_ x q=true
   ·rw[if_pos c1];have o:=ih r q O ⟨O,O⟩;have j:=Tr.cnt_split q r;have z:=Tr.wgt_split q r;have w:=S3 l x y (r.split q).1 ⟨Xh,Xg⟩;unfold aIp at o ⊢;have s:AP .lss (.str x) (.str q)=some (.bool (H_ x q)):=rfl;simp only[HG,↓C2,HB,simprocAttr,HP,s,c1,Ab a,o,Ab f,w]
    (refine aB (Al ?_) ?_;first|rfl|simp[AK,AA,H3,Ai,Ac])
    simp only[HG,↓C2,HB,simprocAttr,HP]
    all_goals exact Y2
   ·rw[if_neg c1];have c1:H_ x q=false:=by simpa using c1
    have o:=ih l q O ⟨O,O⟩;have j:=Tr.cnt_split q l;have z:=Tr.wgt_split q l;have w:=S3 (l.split q).2 x y r ⟨Xh,Xg⟩;unfold aIp at o ⊢;have s:AP .lss (.str x) (.str q)=some (.bool (H_ x q)):=rfl;simp only[HG,↓C2,HB,simprocAttr,HP,s,c1,Ab a,o,Ab f,w]
    (refine aB (Al ?_) ?_;first|rfl|simp[AK,AA,H3,Ai,Ac])
    simp only[HG,↓C2,HB,simprocAttr,HP]
    all_goals exact Y2
def S5(t:Tr)(q:Bs)(h:bS t):vU [HV t,.str q]=some (.tup [HV (t.split q).1,HV (t.split q).2]):=
 aMY _ t q YE h
def aPp:=Aq [(104,Ac N7)]
def aPD:=RF aPp aEO [.t 2] 6
def aRf:Kq aPD 102:=An (Aj func102) (Aa V2 Ad)
def aGH(t:Tr):aPD [.agg [HV t]]=some (.int .i64 (t.cnt:Nat)):=by
 refine Am (Qa rfl) ?_;unfold aEO;have h:=LE t;simp only[HG,↓C2,HB,simprocAttr,HP,Ae aPp 104,h]
 all_goals exact Y2
def aPo:=Aq [(172,Ac aGv)]
def aPC:=RF aPo aEN [.t 2] 6
def aRe:Kq aPC 103:=An (Aj func103) (Aa aDf Ad)
def aGG(t:Tr):aPC [.agg [HV t]]=some (.int .i64 (t.wgt:Nat)):=by
 refine Am (Qa rfl) ?_;unfold aEN;have h:=S4 t;simp only[HG,↓C2,HB,simprocAttr,HP,Ae aPo 172,h]
 all_goals exact Y2
def aPq:=Aq [(138,Ac aGB)]
def vY:=RF aPq aEU [.cell (some 1) 6] 13
def aDl:Kq vY 83:=An (Aj func83) (Aa aRa Ad)
def N8(t:Tr)(k v:Bs)(d:t.cnt<=800000)(p:t.wgt+k.length+v.length<=800000000000):vY [.agg [HV t],.str k,.str v]=some (.agg [HV (t.put k v)]):=by
 refine Am (Qa rfl) ?_;unfold aEU;have h:=aGA t k v d p;simp only[HG,↓C2,HB,simprocAttr,HP,Ae aPq 138,h]
 all_goals exact Y2
def Sg{S:HD}{q:Bs}{Q:Ex->St->Prop}(z:S 62=some (Ac PM)):∀(t:Tr)(w:St) g,w.s 1= .str q->w.s 6=HV t->(∀v n,t.get q=some v->n.s 4= .str v->n.s 5= .bool true->Q .ret n)->(t.get q=none->∀n,Q (.exit 0) n)->A9 S [] NS Q w g
 | .nil,w,g,h1,h6,hr,he=>by
  refine Af NS.eq_1 ?_;simp only[HG,↓C2,HB,simprocAttr,HP,h1,h6,bne_self_eq_false];exact he rfl _
 | .node l x y r,w,g,h1,h6,hr,he=>by
  have o:=Sg (q:=q) (Q:=Q) z l;have b:=Sg (q:=q) (Q:=Q) z r;have j:PM [.str q,.str x]=some (.int .i64 (C0 q x)):=rfl;refine Af NS.eq_1 ?_;obtain⟨i,ia,c⟩:=w;simp only at h1 h6;unfold Tr.get at hr he;by_cases c1:H_ q x=true
  ·rw[if_pos c1]at hr he;have u:(C0 q x<0)=True:=by rw[V_];exact eq_true c1
   simp only[HG,↓C2,HB,simprocAttr,HP,h1,h6,MW,Ab z,j,u];exact o _ _ h1 rfl hr he
  ·rw[if_neg c1]at hr he;have u:(C0 q x<0)=False:=by rw[V_];exact eq_false c1
   by_cases c2:H_ x q=true
   ·rw[if_pos c2]at hr he;have p:(0<C0 q x)=True:=by rw[WC];exact eq_true c2
    simp only[HG,↓C2,HB,simprocAttr,HP,h1,h6,Ab z,j,u,p];exact b _ _ h1 rfl hr he
   ·rw[if_neg c2]at hr he;have p:(0<C0 q x)=False:=by rw[WC];exact eq_false c2
    simp only[HG,↓C2,HB,simprocAttr,HP,h1,h6,Ab z,j,u,p];exact hr y _ rfl rfl rfl
def aPA:=Aq [(62,Ac PM)]
def jZ:=RF aPA aFc [.t 4,.t 5] 36
def nC:Kq jZ 27:=An (Aj func27) (Aa sC Ad)
def Ob(t:Tr)(q:Bs):jZ [.agg [HV t],.str q]=some (.tup [.str ((t.get q).getD []),.bool (t.get q).isSome]):=by
 refine Am (Qa rfl) ?_;have z:aPA 62=some (Ac PM):=rfl;unfold aFc;simp only[HG,↓C2,HB,simprocAttr,HP];refine Sg (q:=q) z t _ _ rfl rfl (λv n a j p=>?_) (λa n=>?_)
 ·rw[a];simp only[HG,↓C2,HB,simprocAttr,j,p]
  all_goals exact Y2
 ·rw[a];simp only[HG,↓C2,HB,simprocAttr]
  all_goals exact Y2
def Sf{S:HD}{q:Bs}{Q:Ex->St->Prop}(z:S 104=some (Ac N7)):∀(t:Tr)(r:Nat)(v:St) g,t.cnt<=900000->r+t.cnt<=900000->v.s 1= .str q->v.s 5= .int .i64 (r:Int)->v.s 6=HV t->(∀n,n.s 5= .int .i64 ((r+t.rank q:Nat):Int)->Q (.exit 0) n)->A9 S [] NO Q v g
 | .nil,r,v,g,hc,hr,h1,h5,h6,he=>by
  refine Af NO.eq_1 ?_;simp only[HG,↓C2,HB,simprocAttr,HP,h1,h6,bne_self_eq_false];exact he _ h5
 | .node l x y t,r,v,g,hc,hr,h1,h5,h6,he=>by
  have o:=Sf (q:=q) (Q:=Q) z l;have b:=Sf (q:=q) (Q:=Q) z t;have a:=LE l;simp only[Tr.cnt]at hc hr;have m:IntKind.i64.wrap (1+(l.cnt:Int))=((1+l.cnt:Nat):Int):=Xi
  have w:IntKind.i64.wrap ((r:Int)+((1+l.cnt:Nat):Int))=((r+(1+l.cnt):Nat):Int):=Xi
  refine Af NO.eq_1 ?_;obtain⟨i,ia,c⟩:=v;simp only at h1 h5 h6;have f:AP .lss (.str x) (.str q)=some (.bool (H_ x q)):=rfl;unfold Tr.rank at he;by_cases c1:H_ x q=true
  ·rw[if_pos c1]at he;simp only[HG,↓C2,HB,simprocAttr,HP,h1,h5,h6,MW,f,c1,Ab z,a,m,w];exact b (r+(1+l.cnt)) _ _ O O h1 rfl rfl (λn h=>he n (by rw[h];congr 2;omega))
  ·rw[if_neg c1]at he;have c1:H_ x q=false:=by simpa using c1
   simp only[HG,↓C2,HB,simprocAttr,HP,h1,h5,h6,MW,f,c1];exact o r _ _ O O h1 h5 rfl he
def aPx:=Aq [(104,Ac N7)]
def aPH:=RF aPx aE3 [.t 4] 34
def aRs:Kq aPH 49:=An (Aj func49) (Aa V2 Ad)
def aG0(t:Tr)(q:Bs)(d:t.cnt<=900000):aPH [.agg [HV t],.str q]=some (.int .i64 (t.rank q:Nat)):=by
 refine Am (Qa rfl) ?_;have z:aPx 104=some (Ac N7):=rfl;unfold aE3;simp only[HG,↓C2,HB,simprocAttr,HP];refine Sf (q:=q) z t 0 _ _ d O rfl rfl rfl (λn h=>?_);rw[Qj]at h;simp only[HG,↓C2,HB,simprocAttr,h]
 all_goals exact Y2
def atD(z:Option (Bs×Bs)):D:= .tup [.str (z.getD ([],[])).1,.str (z.getD ([],[])).2,.bool z.isSome]
def Se{S:HD}{Q:Ex->St->Prop}(z:S 104=some (Ac N7)):∀(t:Tr)(i:Nat)(w:St) g,t.cnt<=900000->i<=900000->w.s 1= .int .i64 (i:Int)->w.s 7=HV t->(∀k v q,t.at_ i=some (k,v)->q.s 4= .str k->q.s 5= .str v->q.s 6= .bool true->Q .ret q)->(t.at_ i=none->∀q,Q (.exit 0) q)->A9 S [] NN Q w g
 | .nil,i,w,g,hc,hi,h1,h7,hr,he=>by
  refine Af NN.eq_1 ?_;simp only[HG,↓C2,HB,simprocAttr,HP,h1,h7,bne_self_eq_false];exact he rfl _
 | .node l x y r,i,w,g,hc,hi,h1,h7,hr,he=>by
  have o:=Se (Q:=Q) z l;have b:=Se (Q:=Q) z r;have a:=LE l;simp only[Tr.cnt]at hc;have m:IntKind.i64.wrap ((l.cnt:Int)+1)=(l.cnt:Int)+1:=H9 O O;refine Af NN.eq_1 ?_;obtain⟨e,ia,c⟩:=w;simp only at h1 h7;unfold Tr.at_ at hr he;by_cases c1:i<l.cnt
  ·rw[if_pos c1]at hr he;have u:((i:Int)<l.cnt)=True:=eq_true O;simp only[HG,↓C2,HB,simprocAttr,HP,h1,h7,MW,Ab z,a,u];exact o i _ _ O hi h1 rfl hr he
  ·rw[if_neg c1]at hr he;have u:((i:Int)<l.cnt)=False:=eq_false O;by_cases c2:l.cnt<i
   ·rw[if_pos c2]at hr he;have p:((l.cnt:Int)<i)=True:=eq_true O;have n:IntKind.i64.wrap ((i:Int)-((l.cnt:Int)+1))=((i-(l.cnt+1):Nat):Int):=by rw[H9 O O];omega
    simp only[HG,↓C2,HB,simprocAttr,HP,h1,h7,MW,Ab z,a,u,p,m,n];exact b (i-(l.cnt+1)) _ _ O O rfl rfl hr he
   ·rw[if_neg c2]at hr he;have p:((l.cnt:Int)<i)=False:=eq_false O;simp only[HG,↓C2,HB,simprocAttr,HP,h1,h7,MW,Ab z,a,u,p]
    (refine aB (Al ?_) ?_;first|rfl|simp[AK,AA,H3,Ai,Ac])
    simp only[HG,↓C2,HB,simprocAttr,HP];exact hr x y _ rfl rfl rfl rfl
def aPw:=Aq [(104,Ac N7)]
def aPG:=RF aPw aE2 [.t 4,.t 5,.t 6] 48
def aRr:Kq aPG 50:=An (Aj func50) (Aa V2 Ad)
def aGZ(t:Tr)(i:Nat)(d:t.cnt<=900000)(hi:i<=900000):aPG [.agg [HV t],.int .i64 (i:Nat)]=some (atD (t.at_ i)):=by
 refine Am (Qa rfl) ?_;have z:aPw 104=some (Ac N7):=rfl;unfold aE2;have b:((i:Int)<0)=False:=eq_false O;simp only[HG,↓C2,HB,simprocAttr,HP,b];refine Se z t i _ _ d hi rfl rfl (λk v q a j p y=>?_) (λa q=>?_)
 ·rw[a];unfold atD;simp only[HG,↓C2,HB,simprocAttr,j,p,y]
  all_goals exact Y2
 ·rw[a];unfold atD;simp only[HG,↓C2,HB,simprocAttr]
  all_goals exact Y2
def iK(x:UInt8):∀l:Bs,Tr.beyB (l++[x])=if x<255 then some (l++[x+1])else Tr.beyB l
 |[]=>by
  show(match Tr.beyB []with|some e=>some (x::e)|none=>if x<255 then some [x+1]else none)=_;rfl
 |y::l=>by
  have ih:=iK x l;show(match Tr.beyB (l++[x])with|some e=>some (y::e)|none=>if y<255 then some [y+1]else none)=_;rw[ih];by_cases c:x<255
  ·rw[if_pos c,if_pos c];rfl
  ·rw[if_neg c,if_neg c];rfl
def eW{S:HD}{p:Bs}{Q:Ex->St->Prop}(hp:p.length<=1000000):∀(j:Nat)(v:St) g,j<=p.length->v.s 0= .str p->v.s 4= .int .i64 ((j:Int)-1)->(∀e q,Tr.beyB (p.take j)=some e->q.s 2= .str e->q.s 3= .bool true->Q .ret q)->(Tr.beyB (p.take j)=none->∀q,Q (.exit 0) q)->A9 S [] NG Q v g
 |0,v,g,hj,h0,h4,hr,he=>by
  refine Af NG.eq_1 ?_;have y:v.s 4= .int .i64 (-1):=h4;have o:((0:Int)<=-1)=False:=eq_false V;simp only[HG,↓C2,HB,simprocAttr,h0,y,o];exact he rfl _
 |j+1,v,g,hj,h0,h4,hr,he=>by
  have ih:=eW (S:=S) (Q:=Q) hp j;refine Af NG.eq_1 ?_;obtain⟨i,t,u⟩:=v;simp only at h0 h4;have b:((j+1:Nat):Int)-1=(j:Int):=O
  rw[b]at h4;have o:((0:Int)<=(j:Int))=True:=eq_true O;have w:p[j]?=some (p[j]' O):=Qd O;generalize (p[j]' O)=x at w;have d:p.take (j+1)=p.take j++[x]:=by rw[List.take_add_one,w];rfl
  rw[d,iK]at hr he;have a:IntKind.i64.wrap ((j:Int)-1)=(j:Int)-1:=H9 O O;by_cases c:x<255
  ·rw[if_pos c]at hr he;have c':x.toNat<255:=c;have z:((x.toNat:Int)<255)=True:=eq_true O;have r:IntKind.u8.wrap ((x.toNat:Int)+1)=((x.toNat+1:Nat):Int):=by
    show((x.toNat:Int)+1) % 256=_;omega
   have k:UInt8.ofNat (x.toNat+1)=x+1:=by
    apply UInt8.toNat_inj.1;rw[UInt8.toNat_ofNat',UInt8.toNat_add];rfl
   have db:((j:Int)<=p.length)=True:=eq_true O;have f:AP .add (.str (p.take j)) (.str [x+1])=some (.str (p.take j++[x+1])):=LA (by rw[Za];simp only[Qb,Qg];omega);simp only[HG,↓C2,HB,simprocAttr,h0,h4,o,db,w,z,r,k,Qm,QK,Q2,and_self,f]
   (refine aB (Al ?_) ?_;first|rfl|simp[AK,AA,H3,Ai,Ac])
   simp only[HG,↓C2,HB,simprocAttr];exact hr _ _ rfl rfl rfl
  ·rw[if_neg c]at hr he;have c':¬x.toNat<255:=c;have z:((x.toNat:Int)<255)=False:=eq_false O;simp only[HG,↓C2,HB,simprocAttr,h0,h4,o,w,z,a,Qm];exact ih _ _ O h0 rfl hr he
def aPv:=Aq [(105,Ac aBa)]
def aPF:=RF aPv aE1 [.t 4] 8
def aRq:Kq aPF 51:=An (Aj func51) (Aa aMj Ad)
def aGY(s t:Bs):aPF [.str s,.str t]=some (.bool (A7 s t)):=by
 refine Am (Qa rfl) ?_;unfold aE1;have h:aBa [.str s,.str t]=some (.bool (A7 s t)):=rfl;simp only[HG,↓C2,HB,simprocAttr,Ae aPv 105,h]
 all_goals exact Y2
theorem uL{a:Ak}:∀{l:Bs} {b:Ak},(NX a b l).1=0->∀c∈l,Bw a (c.toNat:Int)=0
 |[],b,h,c,hc=>by cases hc
 |x::r,b,h,c,hc=>by
  unfold NX at h;split at h
  ·omega
  ·rename_i u;rcases Qn.1 hc with rfl|hc
   ·exact Decidable.not_not.1 u
   ·exact uL h c hc
def Pw{a:Ak}(h:Cl a=0){c:UInt8}(d:c∈BP a.op):Bw a (c.toNat:Int)=0:=by
 grind [Cl,uL]
def MU{a:Ak}(h:Cl a=0)(d:(112:UInt8)∈BP a.op):Ay a.pa=0:=Pw h d
def hZ{a:Ak}(h:Cl a=0)(d:(113:UInt8)∈BP a.op):Ay a.ot=0:=Pw h d
def zD:∀op:Nat,9<=op->op<=18->(112:UInt8)∈BP (op:Int):=by
 intro op u y;have:∀op,op<19->9<=op->(112:UInt8)∈BP (op:Nat):=Xf
 exact this op O u
def aIS{a:Ak}(h:Cl a=0)(u:9<=a.op)(y:a.op<=18):Ay a.pa=0:=by
 have:=zD a.op.toNat O O;rw[QW O]at this;exact MU h this
def R3{a:Ak}(h:Cl a=0)(u:a.op=18):Ay a.ot=0:=by
 refine hZ h ?_;rw[u];decide+kernel
theorem Cp{s:Bs}(h:Ay s=0):s.length<=64:=by
 grind [Ay]
def aUc{y:Ry}(h:MY y=0):IY y≠[]:=by
 unfold IY;rw[if_pos h];intro e;have f:=aBS y;cases y<;>simp[Pc,spJ,Lib.join]at e<;>(try split at e)<;>simp[]at e
def Gr(s:Bs):Prop:=∃y,MY y=0∧ryN y∧s=IY y
def Gr.ne{s:Bs}:Gr s->s≠[]:=λ⟨y,h,_,e⟩=>by rw[e];exact aUc h
def bR(s:Bs):Prop:=∀c∈s,c≠32∧c≠44
def hU{s:Bs}(h:∀j,j<s.length->H6 s j≠32∧H6 s j≠44):bR s:=λc d=>by
 obtain⟨j,z,rfl⟩:=QI d;have:=h j z;unfold H6 at this;rw[QO,Qd z]at this;simp only[Q4]at this;exact⟨λe=>by rw[e]at this;exact this.1 rfl,λe=>by rw[e]at this;exact this.2 rfl⟩
theorem aAm{s:Bs}(h:bR s):Su s 32=false∧Su s 44=false:=by
 constructor<;>(unfold Su;rw[Zj];intro c d;simp only[beq_iff_eq])
 ·exact(h c d).1
 ·exact(h c d).2
def mG{s:Bs}(h:bR s)(u:s≠[])(y:s≠[45])(o:s.length<=64):mH s=true:=by
 grind [mH,aAm]
def mJ{s:Bs}{i:Nat}(hi:i<s.length)(h:Ej (Ea s i).1=true):1<=(Ea s i).2∧∀j,i<=j->j<i+(Ea s i).2->H6 s j≠32∧H6 s j≠44:=by
 grind [Py,E5,Ea,Ej]
def Pb{s:Bs}:∀(f p n:Nat),s.length<=p+f->DM s f p n≠4->∀j,p<=j->j<s.length->H6 s j≠32∧H6 s j≠44
 |0,p,n,hf,h,j,h1,h2=>O
 |f+1,p,n,hf,h,j,h1,h2=>by
  unfold DM at h;rw[if_pos O]at h;split at h
  ·rename_i o;obtain⟨k,d⟩:=mJ O o;by_cases z:j<p+(Ea s p).2
   ·exact d j h1 z
   ·exact Pb f _ _ O h j O h2
  ·exact absurd rfl h
def mB{s:Bs}(h:Fp s=0):bR s∧s≠[]∧s≠[45]:=by
 unfold Fp at h;split at h
 ·cases h
 ·rename_i u;exact⟨hU λj z=>Pb s.length 0 0 O (by rw[h];decide) j (Qf _) z,λe=>u (.inl e),λe=>u (.inr (.inr (.inr e)))⟩
theorem grade_parts:∀{l:List Bs} {w:Bool},Gq w l=some false->∀p∈l,Fp p=0
 |[],w,h,p,hp=>by cases hp
 |x::r,w,h,p,hp=>by
  unfold Gq at h;split at h
  ·cases h
  ·rename_i u;have e:∀{w:Bool} {l:List Bs},Gq w l=some false->w=false:=by
    intro w l;induction l generalizing w with
    |nil=>intro h;simpa[Gq]using h
    |cons y t ih=>
     intro h;unfold Gq at h;split at h
     ·cases h
     ·grind
   rcases Qn.1 hp with rfl|hp
   ·grind [Pj]
   ·exact grade_parts h p hp
def Pf{s:Bs}(h:Ay s=0):∀p∈splitC 47 s,Fp p=0:=by
 grind [Ay,Lm,grade_parts]
def TU:∀(a b:Bs),splitC 47 (a++47::b)=splitC 47 a++splitC 47 b
 |[],b=>by
  show splitC 47 (47::b)=_
  conv=>lhs;unfold splitC
  rfl
 |c::r,b=>by
  have ih:=TU r b;show splitC 47 (c::(r++47::b))=_
  conv=>lhs;unfold splitC
  conv=>rhs;arg 1;unfold splitC
  rw[ih];split
  ·rfl
  ·grind [splitC,E6]
def TV:∀(s:Bs),∃t,splitC 47 s=(BZ s 47).1::t∧((BZ s 47).2.2=true->(BZ s 47).1.length+1<=s.length)∧((BZ s 47).2.2=false->(BZ s 47).1=s)
 |[]=>⟨[],rfl,λh=>by simp[BZ,Lib.indexByte]at h,λ_=>rfl⟩
 |c::r=>by
  obtain⟨t,u,y,o⟩:=TV r;by_cases d:c=47
  ·subst d;have e:Lib.indexByte (47::r) 47=0:=by unfold Lib.indexByte;simp
   refine⟨splitC 47 r,?_,?_,?_⟩
   ·simp_all [BZ,splitC]
   ·grind [BZ]
   ·grind [BZ]
  ·have z:(c==47)=false:=by simpa using d
   unfold splitC;rw[if_neg d,u];refine⟨t,?_⟩;have e:Lib.indexByte (c::r) 47=if Lib.indexByte r 47==-1 then-1 else Lib.indexByte r 47+1:=by
    conv=>lhs;unfold Lib.indexByte
    rw[z];rfl
   rcases nE r 47 with e1|⟨e1,n⟩
   ·have k:BZ r 47=(r,[],false):=by unfold BZ;rw[e1];rfl
    have i:BZ (c::r) 47=(c::r,[],false):=by unfold BZ;rw[e,e1];rfl
    rw[k,i];exact⟨rfl,λh=>Xc,λ_=>rfl⟩
   ·have b:(Lib.indexByte r 47==-1)=false:=by rw[beq_eq_false_iff_ne];omega
    have f:Lib.indexByte (c::r) 47=Lib.indexByte r 47+1:=by rw[e,b];rfl
    generalize j:Lib.indexByte r 47=q at *;have g:(q+1).toNat=q.toNat+1:=O
    have k:BZ r 47=(r.take q.toNat,r.drop (q.toNat+1),true):=by unfold BZ;rw[j,if_neg O]
    have i:BZ (c::r) 47=(c::r.take q.toNat,r.drop (q.toNat+1),true):=by unfold BZ;rw[f,if_neg O,g];rfl
    rw[k,i];refine⟨rfl,λ_=>?_,λh=>Xc⟩;simp only[Qb,Za];omega
def aAH{s z:Bs}(h:Bo s z=true):Di s z=s∨s=z++47::Di s z:=by
 unfold Bo at h;unfold Di;by_cases v:z=[]
 ·simp_all
 ·rw[if_neg v]at h ⊢;rw[QB]at h;rw[if_pos h.1,if_pos h.2];right;have u:s.take z.length=z:=by simpa[A7]using h.1
  have y:(s.drop z.length).take 1=[47]:=by simpa[A7]using h.2
  have m:s=z++s.drop z.length:=by
   conv=>lhs;rw[←Q_ z.length s,u]
  have n:s.drop z.length=47::(s.drop z.length).drop 1:=by
   conv=>lhs;rw[←Q_ 1 (s.drop z.length),y]
   rfl
  conv=>lhs;rw[m,n]
theorem oV{s z:Bs}(i:Ay s=0)(h:(Cv s z).2=true):mH (Cv s z).1=true:=by
 have r:=Cp i;have g:=Pf i;have f:Bo s z=true:=by
  grind [Cv]
 have n:=aAH f;have hl:=Ue s z;obtain⟨t,m,w,k⟩:=TV (Di s z);have q:(BZ (Di s z) 47).1∈splitC 47 s:=by
  rcases n with e|e
  ·simp_all
  ·rw[e,TU,←e,m];exact List.mem_append_right _ (Qo ..)
 obtain⟨c1,c2,c3⟩:=mB (g _ q);unfold Cv;rw[if_neg (by rw[f];decide)];split
 ·rename_i u;have:=w u;refine mG (λc d=>?_) U (λe=>?_) Xb
  ·rcases QH.1 d with h|h
   ·exact c1 c h
   ·simp_all
  ·have:=congrArg ZP e;simp at this
 ·rename_i u;have:=k XL;rw[this]at c1 c2 c3;exact mG c1 c2 c3 (show(Di s z).length<=64 by omega)
def R6{s:Bs}:∀(f p:Nat),s.length<=p+f->Nn s f p=true->∀j,p<=j->j<s.length->El (H6 s j)=true
 |0,p,hf,h,j,h1,h2=>O
 |f+1,p,hf,h,j,h1,h2=>by
  unfold Nn at h;rw[if_pos O,QB]at h;by_cases e:j=p
  ·rw[e];exact h.1
  ·exact R6 f (p+1) O h.2 j O h2
def aI9{s:Bs}(h:BJ s=true):mH s=true:=by
 unfold BJ at h;simp only[QB,decide_eq_true_eq]at h;have d:∀j,j<s.length->El (H6 s j)=true:=λj z=>R6 s.length 0 O h.2 j (Qf _) z
 have f:∀j,j<s.length->H6 s j≠32∧H6 s j≠44∧H6 s j≠45:=λj z=>by
  have:=d j z;unfold El at this;simp only[Zt,decide_eq_true_eq]at this;omega
 refine mG (hU λj z=>⟨(f j z).1,(f j z).2.1⟩) (λe=>by rw[e]at h;simp at h) (λe=>?_) O;have:=(f 0 O).2.2;rw[e]at this;exact this rfl
def gY{zs:List Bs}{x:Bs}(h:x∈Lib.compact zs):x∈zs:=by
 unfold Lib.compact Lib.compactUpTo at h;obtain⟨j,z,rfl⟩:=Qp.1 h;have u:=List.mem_range.1 (QQ.1 z).1;rw[getElem!_pos _ _ XL];simp
def M9{l:List Bs}{x:Bs}(h:x∈lM l):x∈l:=(ZB l _).mem_iff.1 h
theorem aSj{z:Bs}{l:List Bs}{x:Bs}(h:x∈uO z l):∃s∈l,(Cv s z).2=true∧(Cv s z).1=x:=by
 have:=M9 (gY h);unfold GT at this;obtain⟨s,j,e⟩:=List.mem_filterMap.1 this;split at e
 ·simp_all
 ·cases e
def aSk(z:Bs)(l:List Bs):(uO z l).length<=l.length:=by
 unfold uO;refine QG (Lib.compact_length_le _) ?_;unfold lM;rw[Qs];exact Q5 _ _
theorem Pi{l:List Bs}{s:Bs}(h:s∈Ce l):Ay s=0:=by
 grind [Ce,Da,Bx]
def yA(l:List Bs):(Ce l).length<=l.length:=Q5 _ _
def aFw(z:Bs)(l:List Bs):(((uO z (Ce l)).take 64).any λs=>!mH s)=false:=by
 grind [aSj,oV,Pi]
def zA(l:List Bs):0<=Lm l∧Lm l<=99:=by
 grind [Lm]
def LS(s:Bs):0<=Ay s∧Ay s<=99:=by
 unfold Ay;split
 ·decide
 ·exact zA _
def aD3(b:Bool):0<=Dm b∧Dm b<=99:=by cases b<;>decide
def aBZ(r:Rl)(l:List Rl):0<=GE r l∧GE r l<=99:=by
 unfold GE;have:=LS r.1
 repeat' split
 all_goals omega
def Ua(l:List Rl):∀f j,0<=Eh l f j∧Eh l f j<=99
 |0,j=>by unfold Eh;decide
 |f+1,j=>by
  unfold Eh;have:=aBZ (CK l j) (l.take j);have:=Ua l f (j+1)
  repeat' split
  all_goals omega
def VJ(l:List Rl):0<=Cg l∧Cg l<=99:=by
 unfold Cg;have:=Ua l l.length 0;split<;>omega
def UN(a:Ak)(c:Int):0<=Bw a c∧Bw a c<=99:=by
 unfold Bw;have:=LS a.pa;have:=LS a.ot;have:=VJ a.rs
 repeat' split
 all_goals first|exact aD3 _|omega
def uM(a:Ak):∀(l:Bs)(b:Ak),0<=(NX a b l).1∧(NX a b l).1<=99
 |[],b=>by unfold NX;simp
 |c::r,b=>by
  unfold NX;have:=UN a (c.toNat:Int);have:=uM a r (Ey b (c.toNat:Int));split<;>omega
def aAn(a:Ak):0<=Cl a∧Cl a<=99:=by
 unfold Cl;have:=uM a (BP a.op) (Ly a)
 repeat' split
 all_goals omega
def aIK(v:Vw)(a:Ak):0<=FJ v a∧FJ v a<=99:=by
 unfold FJ;have:=aAn a
 repeat' split
 all_goals omega
def oX{v:Vw}{a:Ak}(h:FJ v a=0):Cl a=0:=by
 grind [FJ]
def aUm{a:Ak}(h:Cl a=0)(b:0<=a.op):1<=a.op∧a.op<=18:=by
 have k:EU a.op≠[]:=λe=>by unfold Cl at h;rw[if_pos e]at h;cases h
 unfold EU at k;have u:a.op.toNat<19:=by
  rcases ZR a.op.toNat 19 with h|h
  ·exact h
  ·simp_all [Sy]
 have y:a.op.toNat≠0:=λe=>by rw[e]at k;exact k rfl
 omega
def aIk(n p:Bs)(l:List Rl):0<=Fg n p l∧Fg n p l<=99:=by
 unfold Fg;have:=VJ l
 repeat' split
 all_goals omega
def GB{n p:Bs}{l:List Rl}(h:Fg n p l=0):BJ n=true:=by
 grind [Fg]
def Ns(l:List Tk)(k:Tk):((∃f,Eb l k=(some f,0))∧Fg k.1 k.2.1 k.2.2.2=0∧k.2.1≠[]∧AY l k.1=false∧AY l k.2.1=true∧(Eb l k).1=some (BT l k))∨((Eb l k).1=none∧1<=(Eb l k).2∧(Eb l k).2<=99):=by
 unfold Eb;have h:=aIk k.1 k.2.1 k.2.2.2;by_cases u:Fg k.1 k.2.1 k.2.2.2≠0
 ·rw[if_pos u];exact .inr ⟨rfl,Xa⟩
 rw[if_neg u];by_cases y:k.2.1=[]
 ·rw[if_pos y];exact .inr ⟨rfl,V,V⟩
 rw[if_neg y];by_cases o:AY l k.1=true
 ·rw[if_pos o];exact .inr ⟨rfl,V,V⟩
 rw[if_neg o];by_cases j:AY l k.2.1=false
 ·rw[if_pos j];exact .inr ⟨rfl,V,V⟩
 rw[if_neg j];by_cases p:Eu k.2.2.2 (Bk l (IZ l k.2.1)).2.2.2=false
 ·rw[if_pos p];exact .inr ⟨rfl,V,V⟩
 rw[if_neg p];exact .inl ⟨⟨_,rfl⟩,Decidable.not_not.1 u,y,by simpa using o,by simpa using j,rfl⟩
structure TF (l:List Tk):Prop where
 sort:Gg l
 tree:∃r,Ix l r∧r []=0
 name:∀k∈l,BJ k.1=true
 par:∀k∈l,k.2.1=[]∨∃u∈l,u.1=k.2.1
 nop:∀k∈l,k.2.1=[]->k.1=[114,111,111,116]
 rt:∀k∈l,k.1=[114,111,111,116]->k.2.2.2=[([],63)]
def TF.root{l:List Tk}(h:TF l){t:Tk}(v:t∈l):∃k∈l,k.1=[114,111,111,116]:=by
 obtain⟨r,i,_⟩:=h.tree;have y:∀(n:Nat)(t:Tk),t∈l->r t.1<=n->∃k∈l,k.1=[114,111,111,116]:=by
  intro n;induction n with
  |zero=>
   intro t v w;have:=i.up t v;omega
  |succ n ih=>
   intro t v w;rcases h.par t v with e|⟨u,m,e⟩
   ·exact⟨t,v,h.nop t v e⟩
   ·have:=i.up t v;exact ih u m (by rw[e];omega)
 exact y _ t v (Qe _)
def TW{l:List Tk}(h:Gg l):l.Pairwise λt u=>t.1≠u.1:=by
 rw[QD];intro i j hi z y e;have:=h i j y z;unfold Bk at this;rw[QO,QO,Qd hi,Qd z]at this;simp only[Q4]at this;rw[e,FF]at this;cases this
def DA{l:List Tk}{s:Bs}(h:AY l s=true):∃k∈l,k.1=s:=by
 grind [AY,UU,cP]
def fW{l:List Tk}{s:Bs}(n:Gg l)(h:AY l s=false):∀k∈l,k.1≠s:=λk g e=>by
 obtain⟨j,z,rfl⟩:=QI g;have:=(NB n z).2;unfold Bk at this;rw[QO,Qd z]at this;simp only[Q4]at this;rw[e,h]at this;cases this
def PV{s:Bs}(h:BJ s=true):s≠[]:=λe=>by rw[e]at h;cases h
def A8{l:List Tk}{k x:Tk}:x∈BT l k↔x∈l∨x=k:=by
 unfold BT;rw[QH,Qn];constructor
 ·grind
 ·rintro(h|h)
  ·rw[←Q_ (IZ l k.1) l,QH]at h;rcases h with h|h
   ·exact .inl h
   ·exact .inr (.inr h)
  ·exact .inr (.inl h)
def Fe(l:List Tk)(k:Tk):(BT l k).length=l.length+1:=by
 grind [BT]
def aDF{l:List Tk}{k:Tk}(h:TF l)(q:Fg k.1 k.2.1 k.2.2.2=0)(y:AY l k.1=false)(o:AY l k.2.1=true):TF (BT l k):=by
 obtain⟨r,i,v⟩:=h.tree;have w:=GB q;have j:Gg (BT l k):=T_ h.sort y;have a:=fW h.sort y;obtain⟨u,d,g⟩:=DA o;have f:k.2.1≠k.1:=λe=>a u d (g.trans e)
 refine⟨j,⟨λs=>if s=k.1 then l.length+1 else r s,⟨λt ht=>?_,λt ht=>?_,TW j⟩,?_⟩,λt ht=>?_,λt ht=>?_,λt ht c=>?_,λt ht c=>?_⟩
 ·rcases A8.1 ht with ht|rfl
  ·have m:t.1≠k.1:=a t ht;have n:t.2.1≠k.1:=λe=>by
    rcases h.par t ht with e3|⟨x,p,e3⟩
    ·simp_all [PV,e3]
    ·exact a x p (e3.trans e)
   simp only[if_neg m,if_neg n];exact i.up t ht
  ·simp only[if_neg f,if_true];have:=i.top u d;rw[g]at this;omega
 ·rw[Fe];rcases A8.1 ht with ht|rfl
  ·simp only[if_neg (a t ht)];have:=i.top t ht;omega
  ·simp
 ·simp_all [Bs,PV]
 ·rcases A8.1 ht with ht|rfl
  ·exact h.name t ht
  ·exact w
 ·rcases A8.1 ht with ht|rfl
  ·rcases h.par t ht with e|⟨x,p,e⟩
   ·exact .inl e
   ·exact .inr ⟨x,A8.2 (.inl p),e⟩
  ·exact .inr ⟨u,A8.2 (.inl d),g⟩
 ·rcases A8.1 ht with ht|rfl
  ·exact h.nop t ht c
  ·exact absurd (g.trans c) (PV (h.name u d))
 ·rcases A8.1 ht with ht|rfl
  ·exact h.rt t ht c
  ·obtain⟨x,p,e⟩:=h.root d;exact absurd (e.trans c.symm) (a x p)
def aNp:=y0 Tryz.f165 [] []
def Wo:=y1 Tryz.f99 5 [] []
def aNU:=y0 Tryz.f99 [] [(5,Wo)]
def aZp:=Aq []
def aSU:=RF aZp aNp [.t 2] 24
def aVU:Kq aSU 165:=An (Aj func165) Ad
def w8{x:Int}(b:0<=x)(u:x<256):IntKind.u8.wrap x=x:=by show x % 256=x;omega
def orE:∀x:Nat,x<16->∀y:Nat,y<16->IntKind.u8.wrap (bits .or .i64 (IntKind.i64.wrap ((x:Int)*2 ^ min (4:Int).toNat IntKind.i64.bits)) (y:Int))=((16*x+y:Nat):Int):=V
def aXH:=Aq [(165,Ac aSU)]
def aS8:=RF aXH aNU [.t 2,.t 3] 47
def aWc:Kq aS8 99:=An (Aj func99) (Aa aVU Ad)
def opV(x:Op1):Prop:=x.2.1.length<=100∧x.2.2.length<=400∧((x.1=1∧x.2.1≠[])∨(x.1=2∧x.2.1≠[]∧x.2.2=[])∨(x.1=3∧x.2.2=[]))
def aJB(k:Int)(p:Bs)(n:Int):(Ao k p n).length<=p.length+8:=by
 unfold Ao
 repeat' split
 all_goals (first|(simp only[Qh,Qb,Qg];omega)|exact Qf _)
def opK(x:Op1):Prop:=opV x∧(x.1≠3->Bx (Ax x.2.1).1 (Ax x.2.1).2.1 (Ax x.2.1).2.2=0)
theorem Ss(p s:Bs):A7 (p++s) p=true:=XE
def RU{s:Bs}(h:Ay s=0):1<=s.length:=by
 cases s with
 |nil=>exact absurd h V
 |cons c s=>simp
def BH{k n:Int}{name:Bs}(h:Bx k name n=0):Ax (Ao k name n)=(k,name,n):=by
 unfold Ao;rw[if_neg (λe=>e h)];unfold Bx at h;by_cases u:k=1
 ·grind [Ax,Ss]
 rw[if_neg u]at h ⊢;by_cases y:k=2
 ·subst y;rw[if_pos rfl]at h;split at h
  ·rename_i c;obtain⟨n1,n2,i⟩:=c;have hl:=RU i;rw[if_pos rfl];have d:(IntKind.u8.wrap n).toNat=n.toNat:=by
    have:IntKind.u8.wrap n=n:=by show n % 256=n;omega
    rw[this]
   rw[d];have j:([100,47]++name++[0,UInt8.ofNat n.toNat]).drop 2=name++[0,UInt8.ofNat n.toNat]:=U
   have r:(name++[0,UInt8.ofNat n.toNat]).length=name.length+2:=U
   unfold Ax;have m:(name++[0,UInt8.ofNat n.toNat]).take (name.length+2-2)=name:=U
   have z:(name++[0,UInt8.ofNat n.toNat]).getD (name.length+2-1) 0=UInt8.ofNat n.toNat:=by simp[Qz]
   have b:(name++[0,UInt8.ofNat n.toNat]).getD (name.length+2-2) 0=0:=by simp[Qz]
   have t:(((UInt8.ofNat n.toNat).toNat:Nat):Int)=n:=by
    rw[UInt8.toNat_ofNat'];omega
   rw[j,r,if_neg U,if_neg U,if_neg XE,if_neg XE,if_pos ⟨by rw[Q0];exact Ss _ _,O,b⟩,m,z,t]
  ·cases h
 rw[if_neg y]at h ⊢;by_cases o:k=3
 ·simp_all [Ax,A7,Ss]
 rw[if_neg o]at h ⊢;split at h
 ·rename_i la;split at h
  ·rename_i c;obtain⟨rfl,rfl⟩:=c;rcases la with rfl|rfl
   ·rfl
   ·rfl
  ·cases h
 ·cases h
def Hm{k n:Int}{name:Bs}(h:Bx k name n=0):Ao k name n≠[]:=λe=>by
 have:=BH h;rw[e]at this;have:k=0:=(congrArg (·.1) this).symm;subst this;cases h
theorem DR{a k n:Int}{name z:Bs}(g:a=1∨a=2∧z=[])(h:Bx k name n=0)(hl:name.length<=64)(r:z.length<=400):opK (a,Ao k name n,z):=by
 have u:=aJB k name n;have y:=Hm h;refine⟨⟨by show(Ao k name n).length<=100;omega,r,?_⟩,λ_=>by show Bx (Ax (Ao k name n)).1 _ _=0;rw[BH h];exact h⟩;rcases g with rfl|⟨rfl,rfl⟩
 ·exact .inl ⟨rfl,y⟩
 ·simp_all
def eG(a:UInt8){p:Bs}(hl:p.length<=64):opK (3,[a,47]++p++[47],[]):=
 ⟨⟨Xb,Qf _,.inr (.inr ⟨rfl,rfl⟩)⟩,λh=>absurd rfl h⟩
theorem L9{p:Bs}(h:Ay p=0):Bx 1 p 0=0:=by unfold Bx;rw[if_pos rfl,if_pos ⟨rfl,h⟩]
def Oo{p:Bs}{n:Int}(h:Ay p=0)(w:1<=n∧n<=30):Bx 2 p n=0:=by unfold Bx;rw[if_neg V,if_pos rfl,if_pos ⟨w.1,w.2,h⟩]
def xT{p:Bs}(h:BJ p=true):Bx 3 p 0=0:=by unfold Bx;rw[if_neg V,if_neg V,if_pos rfl,if_pos ⟨rfl,h⟩]
structure IF (l:List Op1):Prop where
 n:l.length<=40
 ok:∀x∈l,opK x
def aKj{l f:List Mt}{m:Mt}(e:(FH l m).1=some f):Ay m.1=0∧l.length<4:=by
 grind [FH,Db]
def Ol{l:List Rl}:∀f j,Eh l f j=0->∀i,j<=i->i<j+f->i<l.length->GE (CK l i) (l.take i)=0
 |0,j,_,i,h1,h2,_=>O
 |f+1,j,h,i,h1,h2,hi=>by
  unfold Eh at h;rw[if_pos O]at h;split at h
  ·omega
  ·rename_i d;rcases Nat.eq_or_lt_of_le h1 with rfl|h1
   ·exact Decidable.not_not.1 d
   ·exact Ol f (j+1) h i O O hi
def aCl{l:List Rl}(h:Cg l=0):∀r∈l,r.1.length<=64:=λr q=>by
 unfold Cg at h;split at h
 ·cases h
 ·obtain⟨i,hi,rfl⟩:=QI q;have y:=Ol l.length 0 h i (Qf _) O hi;have e:CK l i=l[i]:=by simp[CK,Qd hi]
  rw[e]at y;unfold GE at y;split at y
  ·omega
  ·grind [Ay,Cp]
theorem T9{l:List Rl}(h:Cg l=0):(B7 (A6 l)).length<=300:=by
 have m:=(Ou h).1;have g:=aCl h;have j:CN (A6 l)<=71*(A6 l).length:=M8 λx p=>by
  obtain⟨r,i,rfl⟩:=Qp.1 p;have:=g r i;have:=F4 r.2.toNat;simp only[FW,Qh,Qb,Qg];omega
 have:=GU (A6 l);rw[CP]at *;omega
def lY(x y:Bs):(AL [x,y]).length=4+x.length+y.length:=by
 grind [AL,Ei,Hw]
def xH{l:List Mt}:DE l↔l.Pairwise λa b=>Op.bytesLess a.1 b.1=true:=by
 rw[QD];constructor
 ·intro h i j hi z y;have:=h i j y z;simpa[Qz,hi,z]using this
 ·intro h i j y z;have:=h i j O z y;simpa[Qz,show i<l.length by omega,z]using this
def E7{l:List Tk}:Gg l↔l.Pairwise λa b=>Op.bytesLess a.1 b.1=true:=by
 rw[QD];constructor
 ·intro h i j hi z y;have:=h i j y z;simpa[Bk,Qz,hi,z]using this
 ·intro h i j y z;have:=h i j O z y;simpa[Bk,Qz,show i<l.length by omega,z]using this
def aFQ{l f:List Mt}{m:Mt}(h:DE l)(e:(FH l m).1=some f):DE f:=by
 rw[L5 h]at e;have:=pQ (s:=(false,l)) (m:=m) h;unfold aFS at this;rw[e]at this;exact this
def aCc{l:List Mt}{p:Bs}(h:DE l):DE (DP l p):=by
 rw[xH]at h ⊢;refine List.Pairwise.sublist ?_ h;unfold DP;have e:l=l.take (BE l p).toNat++l.drop (BE l p).toNat:=(Q_ _ _).symm
 conv=>rhs;rw[e]
 refine List.Sublist.append (List.Sublist.refl _) ?_;rw[←List.drop_drop];exact List.drop_sublist _ _
def iR{l:List Tk}{r:Bs->Nat}(T:Ix l r){s x:Bs}(h:IG l s x):x=s∨∃c∈Ch l s,IG l c x:=by
 induction h with
 |refl=>exact .inl rfl
 |step t v u ih=>
  right;rcases ih with e|⟨c,d,y⟩
  ·refine⟨t.1,?_,.refl⟩;have:=T.up t v;unfold Ch;refine Qp.2 ⟨t,QQ.2 ⟨v,?_⟩,rfl⟩;simp only[QB,decide_eq_true_eq];exact⟨e,λn=>by rw[e,←n]at this;omega⟩
  ·exact⟨c,d,.step t v y⟩
def gP{l:List Tk}{r:Bs->Nat}(T:Ix l r):∀(f:Nat)(s x:Bs),IG l s x->l.length<=r s+f->x∈Em l f s
 |0,s,x,h,hf=>by
  rcases iR T h with rfl|⟨c,d,_⟩
  ·simp[Em]
  ·have:=Li T d;omega
 |f+1,s,x,h,hf=>by
  rw[Em];rcases iR T h with rfl|⟨c,d,y⟩
  ·exact Qo
  ·have:=Li T d;exact Qu _ (Zp.2 ⟨c,d,gP T f c x y O⟩)
def aDT{l:List Tk}{r:Bs->Nat}(T:Ix l r){s x:Bs}:x∈BK l s↔IG l s x:=by
 unfold BK;constructor
 ·intro h;exact L2 _ _ _ (M9 h)
 ·intro h;exact(ZB _ _).mem_iff.2 (gP T l.length s x h O)
def yY{l:List Bs}{s:Bs}:GV l s=true↔s∈l:=by
 unfold GV;rw[List.any_eq_true];constructor
 ·rintro⟨x,hx,e⟩;rw[of_decide_eq_true e];exact hx
 ·intro h;exact⟨s,h,decide_eq_true rfl⟩
def DU{l:List Tk}{g:List Bs}{t:Tk}:t∈Cr l g↔t∈l∧t.1∉g:=by
 unfold Cr;rw[QQ];have:=@yY g t.1;cases h:GV g t.1<;>simp_all
def aDG{l:List Tk}(h:TF l)(s:Bs):TF (Cr l (BK l s)):=by
 obtain⟨r,T,q⟩:=h.tree;have b:(Cr l (BK l s)).Sublist l:=QX;refine⟨E7.2 ((E7.1 h.sort).sublist b),⟨λn=>((Cr l (BK l s)).filter λu=>decide (r u.1<=r n)).length,⟨λt v=>?_,λt v=>Zw _ _,T.one.sublist b⟩,?_⟩,λk m=>h.name k (b.subset m),λk m=>?_,λk m=>h.nop k (b.subset m),λk m=>h.rt k (b.subset m)⟩
 ·have d:=T.up t (b.subset v);have y:∀L:List Tk,t∈L->(L.filter λu=>decide (r u.1<=r t.2.1)).length<(L.filter λu=>decide (r u.1<=r t.1)).length:=by
   intro L;induction L with
   |nil=>intro h;cases h
   |cons a L ih=>
    have c:(L.filter λu=>decide (r u.1<=r t.2.1)).length<=(L.filter λu=>decide (r u.1<=r t.1)).length:=by
     rw[←Zd,←Zd];exact List.countP_mono_left (λu _ g=>by
      have:=of_decide_eq_true g;exact decide_eq_true O)
    intro hm;rcases Qn.1 hm with rfl|hm
    ·rw[Qi,Qi,if_neg Xb,if_pos U];simp only[Qb];omega
    ·have:=ih hm;rw[Qi,Qi];by_cases c1:r a.1<=r t.2.1
     ·rw[if_pos (by simpa using c1),if_pos Xb];simp only[Qb];omega
     ·rw[if_neg (by simpa using c1)];split
      ·simp only[Qb];omega
      ·exact this
  exact y _ v
 ·rw[Zo,Zs];intro u d;have:=T.up u (b.subset d);simp only[decide_eq_true_eq];omega
 ·obtain⟨o,i⟩:=DU.1 m;rcases h.par k o with e|⟨u,d,e⟩
  ·exact .inl e
  ·refine .inr ⟨u,DU.2 ⟨d,λz=>i ?_⟩,e⟩;rw[aDT T]at z ⊢;rw[e]at z;exact .step k o z
def MF(q m:Bs):∀l:List Bs,B2 (l++[q]) m=if q=m then(l.length:Int)else B2 l m
 |[]=>by simp[B2]
 |x::r=>by
  have ih:=MF q m r;show B2 (x::(r++[q])) m=_;unfold B2;rw[ih];by_cases h:q=m
  ·simp only[if_pos h];rw[if_pos O];simp
  ·simp only[if_neg h]
def gI(k:Kn)(q:Bs)(t:Bs)(b:Bool)(m:Bs):CU {k with es:=k.es++[(q,t,b)]} m=if q=m then(t,b,true)else CU k m:=by
 unfold CU F5;simp only[Zv,QV,Q6,MF,Qr];by_cases h:q=m
 ·simp only[if_pos h];rw[if_neg O];simp[Qz]
 ·simp only[if_neg h];by_cases y:B2 (k.es.map (·.1)) m<0
  ·rw[if_pos y,if_pos y]
  ·rw[if_neg y,if_neg y];have:=(Fx (k.es.map (·.1)) m).2;rw[Qr]at this;have e:∀x,(k.es++[(q,t,b)]).getD (B2 (k.es.map (·.1)) m).toNat x=k.es.getD (B2 (k.es.map (·.1)) m).toNat x:=λx=>by
    simp only[Qz];rw[QP O]
   rw[e]
def aCQ(k:Kn)(q:Bs)(nl:Bool)(l:List Bs)(m:Bs):FL {k with ls:=k.ls++[(q,nl,l)]} m=if q=m then(nl,l,true)else FL k m:=by
 unfold FL;simp only[Zv,QV,Q6,MF,Qr];by_cases h:q=m
 ·simp only[if_pos h];rw[if_neg O];simp[Qz]
 ·simp only[if_neg h];by_cases y:B2 (k.ls.map (·.1)) m<0
  ·rw[if_pos y,if_pos y]
  ·rw[if_neg y,if_neg y];have:=(Fx (k.ls.map (·.1)) m).2;rw[Qr]at this;have e:∀x,(k.ls++[(q,nl,l)]).getD (B2 (k.ls.map (·.1)) m).toNat x=k.ls.getD (B2 (k.ls.map (·.1)) m).toNat x:=λx=>by
    simp only[Qz];rw[QP O]
   rw[e]
def Hl(k:Kn)(q:Bs)(d:Dk)(m:Bs):(q=m->(CU (A2 k q false d) m).2.2=true)∧(q≠m->CU (A2 k q false d) m=CU k m):=by
 have e:A2 k q false d={k with es:=k.es++[(q,((d.its.find? λx=>decide (x.1=q)).getD ([],[],false)).2)]}:=rfl;rw[e];have h:=gI k q ((d.its.find? λx=>decide (x.1=q)).getD ([],[],false)).2.1 ((d.its.find? λx=>decide (x.1=q)).getD ([],[],false)).2.2 m;refine⟨λu=>?_,λu=>?_⟩
 ·refine(congrArg (λx=>x.2.2) h).trans ?_;rw[if_pos u]
 ·refine h.trans ?_;rw[if_neg u]
def aJv(k:Kn)(q:Bs)(d:Dk):(FL (A2 k q true d) q).2.2=true:=by
 have e:A2 k q true d={k with ls:=k.ls++[(q,((d.lss.find? λx=>decide (x.1=q)).getD ([],true,[])).2)]}:=rfl;rw[e];have h:=aCQ k q ((d.lss.find? λx=>decide (x.1=q)).getD ([],true,[])).2.1 ((d.lss.find? λx=>decide (x.1=q)).getD ([],true,[])).2.2 q;refine(congrArg (λx=>x.2.2) h).trans ?_;rw[if_pos rfl]
def iU{l f:List Mt}{m:Mt}(h:DE l)(e:(FH l m).1=some f):∀x∈f,x∈l∨x=m:=by
 grind [L5,pR]
def aFT(l:List Mt)(m:Mt):(∃f,(FH l m).1=some f∧(FH l m).2=0∧f.length=l.length+1)∨((FH l m).1=none∧1<=(FH l m).2∧(FH l m).2<=99):=by
 unfold FH;have h:=LS m.1;by_cases u:Db m.1 m.2.1≠0
 ·grind [Db]
 rw[if_neg u];by_cases y:0<=BE l m.1
 ·simp_all
 rw[if_neg y];by_cases o:GO m.1 (l.map (·.1))=true
 ·simp_all
 rw[if_neg o];by_cases j:4<=l.length
 ·simp_all
 rw[if_neg j];exact .inl ⟨_,rfl,rfl,by rw[isortR_len,Qh];rfl⟩
structure Ih (v:Vw):Prop where
 ok:SU v
 inv:TF v.ks
 srt:DE v.ms
 nlm:v.nlm=true->v.ms=[]
 te:1<=v.te∧v.te<=6
 kl:v.ks.length<=39
 ml:v.ms.length<=4
 mr:∀m∈v.ms,m.1.length<=64
def aH0{v:Vw}(r:Ih v){n:Int}(w:1<=n∧n<=6):Ih {v with te:=n}:=⟨⟨r.ok.ml,r.ok.mp,r.ok.kl,r.ok.kp⟩,r.inv,r.srt,r.nlm,w,r.kl,r.ml,r.mr⟩
def Vb{v:Vw}(r:Ih v){nl:Bool}{l:List Mt}(n:S9 l)(j:DE l)(w:nl=true->l=[])(hl:l.length<=4)(i:∀m∈l,m.1.length<=64):Ih {v with nlm:=nl,ms:=l}:=⟨⟨n.1,n.2,r.ok.kl,r.ok.kp⟩,r.inv,j,w,r.te,r.kl,hl,i⟩
def qP{v:Vw}(r:Ih v){nl:Bool}{l:List Tk}(h:TF l∧l.length<=39∧∀k∈l,aBH k∧I6 k.2.2.2):Ih {v with nlt:=nl,ks:=l}:=⟨⟨r.ok.ml,r.ok.mp,QG h.2.1 V,h.2.2⟩,h.1,r.srt,r.nlm,r.te,h.2.1,r.ml,r.mr⟩
structure IV (a:Ak):Prop where
 ok:Iq a
 cap:G8 a.rs
 nlr:a.nlr=true->a.rs=[]
structure IU (k:Kn):Prop where
 es:k.es.length<=20
 ls:k.ls.length<=20
 et:∀x∈k.es,x.2.1.length<=400
 lt:∀x∈k.ls,x.2.2.length<=2000∧∀s∈x.2.2,s.length<=1000000
def Fz(v:Vw)(e:Int):Oc:=⟨[],false,IY (.fail e),true,[],v⟩
def Dy(v:Vw)(q:Bs)(li:Bool):Oc:=⟨q,li,[],true,[],v⟩
def LH(v:Vw)(a:Ak)(o:Oc):Prop:=
 ∃y,MY y=0∧ryN y∧o.rep=IY y∧(((∃e,y= .fail e)∧o.ops=[]∧o.vw=v)∨((∀e,y≠ .fail e)∧((Ep a.op=false∧o.ops=[]∧∃b,(a.op≠2->a.op≠3->b=v.se)∧o.vw={v with se:=b})∨(Ep a.op=true∧o.ops≠[]∧IF o.ops∧Ih o.vw∧o.vw.key=v.key))))
structure Ip (v:Vw) (a:Ak) (dec:Kn->Oc):Prop where
 run:∀k,IU k->R19 Ta TG [IB v,Ic a,.agg (Im k)]=some (.agg (My (dec k)))
 rep:∀k,IU k->(dec k).need=[]->LH v a (dec k)
 nd:∀k,IU k->(dec k).need≠[]->∃q li,dec k=Dy v q li
 term:∃R:Kn->Nat,(∀k,R k<=3)∧∀k d,IU k->(dec k).need≠[]->R (A2 k (dec k).need (dec k).li d)<R k
def BI{v:Vw}{a:Ak}(o:Oc)(run:∀k,IU k->R19 Ta TG [IB v,Ic a,.agg (Im k)]=some (.agg (My o)))(w:o.need=[])(i:LH v a o):Ip v a (λ_=>o):=
 ⟨run,λ_ _ _=>i,λ_ _ h=>absurd w h,λ_=>0,λ_=>Qf _,λ_ _ _ h=>absurd w h⟩
def B4{v:Vw}{a:Ak}{e:Int}(c:1<=e∧e<=99):LH v a (Fz v e):=⟨.fail e,if_pos c,trivial,rfl,.inl ⟨⟨e,rfl⟩,rfl,rfl⟩⟩
def GX{v:Vw}{a:Ak}{o:Oc}(y:Ry)(h:MY y=0)(w:ryN y)(i:o.rep=IY y)(s:∀e,y≠ .fail e)(p:Ep a.op=false)(k:o.ops=[])(b:Bool)(f:a.op≠2->a.op≠3->b=v.se)(r:o.vw={v with se:=b}):LH v a o:=
 ⟨y,h,w,i,.inr ⟨s,.inl ⟨p,k,b,f,r⟩⟩⟩
def DW{v:Vw}{a:Ak}{o:Oc}(y:Ry)(h:MY y=0)(w:ryN y)(i:o.rep=IY y)(s:∀e,y≠ .fail e)(p:Ep a.op=true)(k:o.ops≠[])(r:IF o.ops)(hi:Ih o.vw)(g:o.vw.key=v.key:=by rfl):LH v a o:=
 ⟨y,h,w,i,.inr ⟨s,.inr ⟨p,k,r,hi,g⟩⟩⟩
def O9{op:Int}(h:4<=op∧op<=18∧op≠9∧op≠14∧op≠17):Ep op=true:=decide_eq_true h
def RA{op:Int}(h:op=1∨op=2∨op=3∨op=9∨op=14∨op=17):Ep op=false:=decide_eq_false O
def PP:∀{l:List Mt},(∀m∈l,m.1.length<=64)->(BL l).length<=68*l.length
 |[],_=>Qe _
 |m::l,h=>by
  have ih:=PP (l:=l) λx p=>h x (Qu _ p)
  have n:=h m (Qo ..);have:=VV m;show(sI m++BL l).length<=_;rw[Qh,Qb];omega
def GP{s:Bs}(h:BJ s=true):s.length<=8:=by
 grind [BJ]
def IT(v:Vw):kV (HM v):=⟨rfl,rfl⟩
def w54(v:Vw)(a:Ak)(k:Kn){e:Int}(c:1<=e∧e<=99):Pz ⟨v,a,k⟩ (HM v) [.int .i64 e]=some (.tup [],Fz v e,none):=pW ⟨v,a,k⟩ (HM v) e (IT v) c
def aEo{v:Vw}{a:Ak}{e:Int}(f:F25 [IB v,Ic a]=some (.int .i64 e))(c:1<=e∧e<=99):Ip v a (λ_=>Fz v e):=
 BI _ (λk _=>aGn Ta TG v a k e O f _ _ (w54 v a k c)) rfl (B4 c)
inductive PJ (v:Vw) (a:Ak):Oc->Prop
 |fail (e:Int):PJ v a (Fz v e)
 |flag (o:Oc) (b:Bool) (h1:o.ops=[]) (h2:o.vw={v with se:=b}):PJ v a o
 |rot (h:v.te<=5):PJ v a (dG (HM v) v.te)
 |mnt (l':List Mt) (e:(FH v.ms (a.pa,a.n,a.fl)).1=some l'):PJ v a (Mb (HM v) false l')
 |unm (hr:Ay a.pa=0) (hf:0<=BE v.ms a.pa):PJ v a (qX (HM v) (decide (DP v.ms a.pa=[])) (DP v.ms a.pa) a.pa)
 |mak (l':List Tk) (e:Eb v.ks (a.ot,a.tk,a.nlr,a.rs)=(some l',0)) (e1:l'=BT v.ks (a.ot,a.tk,a.nlr,a.rs)) (e2:Fg a.ot a.tk a.rs=0) (h:v.ks.length<24):PJ v a (mkO (HM v) false l' a.ot (AL [a.tk,if Cg a.rs=0 then B7 (A6 a.rs)else []]))
 |rev (nl:Bool) (hf:AY v.ks a.ot=true):PJ v a (RZ (HM v) nl (Cr v.ks (BK v.ks a.ot)) false (BK v.ks a.ot))
def aJT{v:Vw}{a:Ak}(hv:Ih v)(ha:IV a)(ja:F25 [IB v,Ic a]=some (.int .i64 0))(hc:Cl a=0)(h1:1<=a.op)(h8:a.op<=8):∃dec,Ip v a dec∧∀k,PJ v a (dec k):=by
 have na:∀o:Oc,(HM v).nl=true->(HM v).ops=[]:=λ_ _=>rfl
 rcases(by omega:a.op=1∨a.op=2∨a.op=3∨a.op=4∨a.op=5∨a.op=6∨a.op=7∨a.op=8)with h|h|h|h|h|h|h|h
 ·exact⟨_,BI _ (λk _=>BR .o1 a k h ja _ _ (LC ⟨v,a,k⟩ (HM v) (.state v.se) (λ_=>rfl) trivial trivial)) rfl (GX (.state v.se) rfl trivial rfl Xp (RA O) rfl v.se (λ_ _=>rfl) rfl),λ_=> .flag _ v.se rfl rfl⟩
 ·exact⟨_,BI _ (λk _=>BR .o2 a k h ja _ _ (LB ⟨v,a,k⟩ _ (λ_=>rfl))) rfl (GX .done rfl trivial rfl Xp (RA O) rfl _ (λe _=>absurd h e) rfl),λ_=> .flag _ _ rfl rfl⟩
 ·exact⟨_,BI _ (λk _=>BR .o3 a k h ja _ _ (LB ⟨v,a,k⟩ _ (λ_=>rfl))) rfl (GX .done rfl trivial rfl Xp (RA O) rfl _ (λ_ e=>absurd h e) rfl),λ_=> .flag _ _ rfl rfl⟩
 ·have ht:=hv.te;by_cases h6:6<=v.te
  ·exact⟨_,BI _ (λk _=>BR .o4 a k h ja _ _ (aF5 ⟨v,a,k⟩ (HM v) _ _ (λ_=>rfl) h6 (w54 v a k V))) rfl (B4 V),λ_=> .fail _⟩
  ·exact⟨_,BI _ (λk _=>BR .o4 a k h ja _ _ (aSy ⟨v,a,k⟩ (HM v) v.te (IT v) h6 rfl O)) rfl (DW .done rfl trivial rfl Xp (O9 O) (by simp[dG,Oc.op,HM]) ⟨by simp[dG,Oc.op,HM],by
    simp only[dG,Oc.op,HM,QC,QT];exact⟨DR (.inl rfl) rfl (Qf _) (by rw[Lib.repeatL_length];unfold Gl;simp only[List.length_singleton];split<;>omega),λ_ h=>nomatch h⟩⟩ (aH0 hv O)),λ_=> .rot O⟩
 ·have hl:=hv.ml;have la:=qG (nl:=v.nlm) (t:=[]) (l:=v.ms) (m:=(a.pa,a.n,a.fl)) O hv.nlm (by have:=ha.ok.pa;simp only;omega);rcases aFT v.ms (a.pa,a.n,a.fl)with ⟨l',e1,e2,e3⟩|⟨e1,e2⟩
  ·rw[e1,e2]at la;have da:S9 l':=⟨O,λm hm=>by
    rcases iU hv.srt e1 m hm with h|h
    ·exact hv.ok.mp m h
    ·rw[h];exact ha.ok.pa⟩
   obtain⟨j,h4⟩:=aKj e1;have b:∀m∈l',m.1.length<=64:=λm hm=>by
    rcases iU hv.srt e1 m hm with h|h
    ·exact hv.mr m h
    ·rw[h];exact Cp j
   exact⟨_,BI _ (λk _=>BR .o5 a k h ja _ _ (aF3 ⟨v,a,k⟩ (HM v) false l' la (IT v) da)) rfl (DW .done rfl trivial rfl Xp (O9 O) Ye ⟨Ye,by
    simp only[Mb,PF,Oc.op,HM,QC,QT];have:=PP b;exact⟨DR (.inl rfl) rfl (Qf _) O,λ_ h=>nomatch h⟩⟩ (Vb hv da (aFQ hv.srt e1) (λe=>Xo) O b)),λ_=> .mnt l' e1⟩
  ·rw[e1]at la;exact⟨_,BI _ (λk _=>BR .o5 a k h ja _ _ (aF4 ⟨v,a,k⟩ (HM v) _ _ (λ_=>rfl) v.nlm v.ms _ la O (w54 v a k e2))) rfl (B4 e2),λ_=> .fail _⟩
 ·have hl:=hv.ml;by_cases hf:BE v.ms a.pa<0
  ·have c:=aLn v.nlm v.ms a.pa O hf;exact⟨_,BI _ (λk _=>BR .o6 a k h ja _ _ (aF2 ⟨v,a,k⟩ (HM v) _ _ (λ_=>rfl) v.nlm v.ms 14 c V (w54 v a k V))) rfl (B4 V),λ_=> .fail _⟩
  ·have hi:(BE v.ms a.pa).toNat<v.ms.length:=by
    have:=SD v.ms a.pa;omega
   have c:=aGp v.nlm v.ms a.pa O hv.nlm hf hi;have da:S9 (DP v.ms a.pa):=⟨Yz,λm hm=>by
    rcases QH.1 hm with h|h
    ·exact hv.ok.mp m (Q3 h)
    ·exact hv.ok.mp m (Zz h)⟩
   have ba:=Cp (MU hc (by rw[h];decide+kernel));have b:∀m∈DP v.ms a.pa,m.1.length<=64:=λm hm=>by
    rcases QH.1 hm with h|h
    ·exact hv.mr m (Q3 h)
    ·exact hv.mr m (Zz h)
   have wa:=da.1;have ca:(DP v.ms a.pa).length<=4:=Yz
   exact⟨_,BI (qX (HM v) (decide (DP v.ms a.pa=[])) (DP v.ms a.pa) a.pa) (λk _=>BR .o6 a k h ja _ _ (aSx ⟨v,a,k⟩ (HM v) _ _ c (IT v) da (by have:=ha.ok.pa;simp only;omega))) rfl (DW .done rfl trivial rfl Xp (O9 O) Ya ⟨Ya,by
    simp only[qX,PF,Oc.op,HM,QC,ZI,QT];have:=PP b;exact⟨DR (.inl rfl) rfl (Qf _) O,eG 109 ba,eG 100 ba,λ_ h=>nomatch h⟩⟩ (Vb hv da (aCc hv.srt) (λe=>of_decide_eq_true e) ca b)),λ_=> .unm (MU hc (by rw[h];decide+kernel)) O⟩
 ·have ra:=hv.kl;have hr:I6 a.rs:=⟨Yv,λr hr=>QG (ha.ok.rs r hr).1 V,ha.cap⟩;have ga:=aHo (nl0:=v.nlt) (nl:=a.nlr) (l:=v.ks) (n:=a.ot) (p:=a.tk) (rs:=a.rs) O (λk hk=>(hv.ok.kp k hk).2) ha.nlr hr (by have:=ha.ok.ot;omega) Yu;have f:=aL3 (nl:=v.nlt) (l:=v.ks) O;rcases Ns v.ks (a.ot,a.tk,a.nlr,a.rs)with ⟨⟨l',e1⟩,e2,e3,e4,e5,e6⟩|⟨e1,e2⟩
  ·rw[e1]at ga;by_cases hm:(24:Int)<=((v.ks.map λk=>D.str k.1).length:Int)
   ·exact⟨_,BI _ (λk _=>BR .o7 a k h ja _ _ (aF0 ⟨v,a,k⟩ (HM v) _ _ (λ_=>rfl) false l' ga _ _ f hm (w54 v a k V))) rfl (B4 V),λ_=> .fail _⟩
   ·have aa:=Ru (n:=a.ot) (p:=a.tk) (nl:=a.nlr) (t:=[]) (l:=a.rs) Yv hr.2.1 (by have:=ha.ok.ot;omega) Yu;simp only at e2;rw[e2]at aa;have q:=bP (nl:=a.nlr) (l:=a.rs) Yv ha.ok.rs;have ea:(if Cg a.rs=0 then B7 (A6 a.rs)else []).length<=300:=by
     grind [T9]
    have ka:=QG ea (by decide:300<=60000);have i:BJ a.ot=true:=GB e2;obtain⟨tp,fa,y⟩:=DA e5;have fb:a.tk.length<=8:=by
     have:=GP (hv.inv.name tp fa);rw[y]at this;exact this
    have ia:(AL [a.tk,if Cg a.rs=0 then B7 (A6 a.rs)else []]).length<=400:=by rw[lY];omega
    have g:=vP a.ot a.tk a.nlr a.rs _ _ aa q Yu ka;exact⟨_,BI (mkO (HM v) false l' a.ot (AL [a.tk,if Cg a.rs=0 then B7 (A6 a.rs)else []])) (λk _=>BR .o7 a k h ja _ _ (aSw ⟨v,a,k⟩ (HM v) false l' ga _ _ f (IT v) hm _ _ g (by have:=ha.ok.ot;simp only;omega))) rfl (DW .done rfl trivial rfl Xp (O9 O) (by simp[mkO,PW,Oc.op,HM]) ⟨by simp[mkO,PW,Oc.op,HM],by
     simp only[mkO,PW,Oc.op,HM,QC,QT];exact⟨DR (.inl rfl) (xT i) (QG (GP i) V) ia,λ_ h=>nomatch h⟩⟩ (qP hv (nl:=false) (l:=l') (by
      have e7:l'=BT v.ks (a.ot,a.tk,a.nlr,a.rs):=ZM ((congrArg ZV e1).symm.trans e6);rw[e7];exact⟨aDF hv.inv e2 e4 e5,by rw[Fe];rw[Qr]at hm;omega,λk hk=>by
       rcases A8.1 hk with hk|rfl
       ·exact hv.ok.kp k hk
       ·exact⟨⟨hr.1,ha.nlr⟩,hr⟩⟩))),λ_=> .mak l' e1 (ZM ((congrArg ZV e1).symm.trans e6)) e2 (by rw[Qr]at hm;omega)⟩
  ·rw[e1]at ga;exact⟨_,BI _ (λk _=>BR .o7 a k h ja _ _ (aF1 ⟨v,a,k⟩ (HM v) _ _ (λ_=>rfl) v.nlt v.ks _ ga O (w54 v a k e2))) rfl (B4 e2),λ_=> .fail _⟩
 ·obtain⟨r,hr,_⟩:=hv.inv.tree;have ra:=hv.kl;cases hf:AY v.ks a.ot with
  |false=>
   have d:=aLv (nl:=v.nlt) O hr hf;exact⟨_,BI _ (λk _=>BR .o8 a k h ja _ _ (aFZ Ta ⟨v,a,k⟩ (HM v) _ _ (λ_=>rfl) v.nlt v.ks true [] 6 d V (w54 v a k V))) rfl (B4 V),λ_=> .fail _⟩
  |true=>
   have d:=aHj (nl:=v.nlt) O hr hf;have qa:(BK v.ks a.ot).length<=v.ks.length+1:=by
    unfold BK lM;rw[Qs];exact tZ hr _ _
   have w:∀s∈BK v.ks a.ot,BJ s=true:=λs hs=>by
    have:=P0 (M9 hs);obtain⟨u,hu,e⟩:=DA hf;rcases Qn.1 this with rfl|h
    ·rw[←e];exact hv.inv.name u hu
    ·obtain⟨t,ht,rfl⟩:=Qp.1 h;exact hv.inv.name t ht
   have z:BK v.ks a.ot≠[]:=λe=>by
    have h1:(BK v.ks a.ot).length=(Em v.ks v.ks.length a.ot).length:=Qs _;rw[e]at h1;cases hk:v.ks.length<;>rw[hk]at h1<;>simp[Em]at h1
   have ma:∀s∈BK v.ks a.ot,s.length<=1000000:=λs hs=>by
    have:=w s hs;unfold BJ at this;simp only[QB,decide_eq_true_eq]at this;omega
   have hy:MY (.names false (BK v.ks a.ot))=0:=if_pos ⟨O,by
    rw[Zj];intro x hx;rw[aI9 (w x hx)];decide⟩
   exact⟨_,BI (RZ (HM v) (decide (Cr v.ks (BK v.ks a.ot)=[])) (Cr v.ks (BK v.ks a.ot)) false (BK v.ks a.ot)) (λk _=>BR .o8 a k h ja _ _ (aSv Ta ⟨v,a,k⟩ (HM v) _ _ false (BK v.ks a.ot) d (IT v) z O ma (λe=>Xo))) rfl (DW (.names false (BK v.ks a.ot)) hy (λe=>Xo) rfl Xp (O9 O) (by simp[RZ,Dl,PW,HM,z]) ⟨by simp[RZ,Dl,PW,HM];omega,λx hx=>by
    simp only[RZ,Dl,PW,HM,QC]at hx;obtain⟨n,hn,rfl⟩:=Qp.1 hx;exact DR (.inr ⟨rfl,rfl⟩) (xT (w n hn)) (QG (GP (w n hn)) V) (Qf _)⟩ (qP hv ⟨aDG hv.inv a.ot,QG (Zw _ _) ra,λk hk=>hv.ok.kp k (QQ.1 hk).1⟩)),λ_=> .rev _ hf⟩
theorem tV{k:Kn}(h:IU k)(q:Bs):(CU k q).1.length<=400:=by
 unfold CU;split
 ·decide
 ·rename_i y;have:=(Fx (F5 k) q).2;unfold F5 at this y;rw[Qr]at this;simp only[Qz,F5];rw[Qd O];exact h.et _ (QL O)
def aQO{k:Kn}(h:IU k)(q:Bs):(FL k q).2.1.length<=2000∧∀s∈(FL k q).2.1,s.length<=1000000:=by
 unfold FL;split
 ·simp_all
 ·rename_i y;have:=(Fx (k.ls.map (·.1)) q).2;rw[Qr]at this;simp only[Qz];rw[Qd O];exact h.lt _ (QL O)
structure Tw (s:Sc):Prop where
 bad:B5 s 6=false
 nl:s.nl=true->s.rs=[]
theorem L4{s:Sc}{q:Int}(h:B5 s q=false):(1<=q∧q<=6)∧(0<=s.mx∧s.mx<=6)∧(0<=s.la∧s.la<=30)∧(s.rs.length:Int)<=6∧Cz s.rs 0=true∧GN s.rs=s.la:=by
 grind [B5,AT]
def Tw.len{s:Sc}(h:Tw s):s.rs.length<=6:=by have:=(L4 h.bad).2.2.2.1;omega
def aQh:Tw sc0:=⟨V,λ_=>rfl⟩
theorem TM{t:Bs}(h:(BB t).2=0):Tw (BB t).1:=by
 unfold BB at h ⊢;split at h
 ·cases h
 ·rename_i u;rw[if_neg u];split at h
  ·cases h
  ·rename_i y;rw[if_neg y];refine⟨by
    cases hb:B5 (Vc t) 6 with
    |false=>rfl
    |true=>exact absurd (.inr (.inr hb)) y,λw=>?_⟩
   simp only[Vc,decide_eq_true_eq]at w;show(FI t).1=[];unfold FI;rw[w];rfl
def Cc(z:Bs×Bool×Bool):Option Sc:=if z.2.1=false∨(BB z.1).2≠0 then none else some (BB z.1).1
def EB(o:Option Sc):Sc:=o.getD sc0
def LP{z:Bs×Bool×Bool}{s:Sc}(h:Cc z=some s):Tw s:=by
 grind [Cc,TM]
def Er(z:Bs×Bool×Bool):Tw (EB (Cc z)):=by
 cases h:Cc z with
 |none=>exact aQh
 |some s=>exact LP h
def AJ(k:Kn)(p:Bs):Bs×Bool×Bool:=CU k (Ao 1 p 0)
section
variable{v:Vw}{a:Ak}{k:Kn}
def Oe(g:IU k){p:Bs}(y:p.length<=1000000)(h:(AJ k p).2.2=false):De ⟨v,a,k⟩ (HM v) [.str p]=some (.tup [.agg (HO sc0),.bool false,.bool false],Dy v (Ao 1 p 0) false,none):=
 aAR ⟨v,a,k⟩ (HM v) p (IT v) y (by have:=g.es;simp only;omega) (AJ k p) rfl h
def Ms(g:IU k){p:Bs}(y:p.length<=1000000)(h:(AJ k p).2.2=true):De ⟨v,a,k⟩ (HM v) [.str p]=some (.tup [.agg (HO (EB (Cc (AJ k p)))),.bool (Cc (AJ k p)).isSome,.bool true],HM v,none):=by
 have hl:(AJ k p).1.length<=1000000:=by have:=tV g (Ao 1 p 0);unfold AJ;omega
 have o:(Wb.mk v a k).k.es.length<=1000:=by have:=g.es;simp only;omega
 by_cases d:(AJ k p).2.1=false∨(BB (AJ k p).1).2≠0
 ·have e:Cc (AJ k p)=none:=if_pos d;rw[e];exact aKp ⟨v,a,k⟩ (HM v) p (IT v) y o (AJ k p) rfl h hl d
 ·have e:Cc (AJ k p)=some (BB (AJ k p).1).1:=if_neg d;rw[e];rw[not_or]at d;exact aF6 ⟨v,a,k⟩ (HM v) p (IT v) y o (AJ k p) rfl h hl (by simpa using d.1) (Decidable.not_not.1 d.2)
def Dt(v:Vw)(p:Bs)(s:Sc)(cas:Int)(data:Bs):Oc:=
 if(Cd s (AN v p).1 (AN v p).2 cas data.length).2.2.2≠0 then Fz v (Cd s (AN v p).1 (AN v p).2 cas data.length).2.2.2 else Rx (HM v) p (Cd s (AN v p).1 (AN v p).2 cas data.length) data
theorem aIJ(s:Sc)(q:Int)(b:Bool)(cas j:Int):0<=IS s q b cas j∧IS s q b cas j<=99:=by
 grind [IS]
def qN{s:Sc}(k:s.rs.length<=6)(q:Int)(b:Bool)(cas j:Int):(0<=(Cd s q b cas j).2.2.2∧(Cd s q b cas j).2.2.2<=99)∧(Cd s q b cas j).1.rs.length<=7∧(Cd s q b cas j).2.2.1.length<=7∧((Cd s q b cas j).2.2.2=0->0<=(Cd s q b cas j).2.1∧(Cd s q b cas j).2.1<=31):=by
 grind [aIJ,Cd,IS,B9,A_,FM,B5,L4]
def aPZ(r:Ih v){p:Bs}(g:p.length<=1000000){s:Sc}(j:Tw s){cas:Int}{data:Bs}(z:data.length<=1000000):∃ol,WT ⟨v,a,k⟩ (HM v) [.str p,.agg (HO s),.int .i64 cas,.str data]=some (.tup [],Dt v p s cas data,ol):=by
 have hl:=j.len;obtain⟨u,y,o,m⟩:=qN hl (AN v p).1 (AN v p).2 cas data.length;have n:(Wb.mk v a k).v.ms.length<=1000:=by have:=r.ml;simp only;omega
 unfold Dt;by_cases h:(Cd s (AN v p).1 (AN v p).2 cas data.length).2.2.2≠0
 ·rw[if_pos h];exact⟨_,aAQ ⟨v,a,k⟩ (HM v) p s cas data (IT v) O j.nl g z n _ rfl O⟩
 ·rw[if_neg h];exact⟨_,aKo ⟨v,a,k⟩ (HM v) p s cas data (IT v) O j.nl g z n _ rfl (Decidable.not_not.1 h) O O⟩
def DO{s:Sc}(j:Tw s):∀x∈s.rs,1<=x.1∧x.1<=30:=(UX j.bad V).2
def eD(s:Sc):(B1 s).length<=4+2*s.rs.length:=by
 grind [B1,rowsI_len,OV]
def tU{s:Sc}{q n:Int}(h:n∈FM s q):∃x∈s.rs,x.1=n:=by
 obtain⟨x,p,e⟩:=Qp.1 h;exact⟨x,Q3 p,e⟩
theorem Wf{p:Bs}(g:Ay p=0){ns:List Int}(h:∀n∈ns,1<=n∧n<=30):∀x∈ns.map (λn=>((2:Int),Ao 2 p n,([]:Bs))),opK x:=λx w=>by
 obtain⟨n,v,rfl⟩:=Qp.1 w;exact DR (.inr ⟨rfl,rfl⟩) (Oo g (h n v)) (Cp g) (Qf _)
theorem TJ(i:Ih v){p:Bs}{s:Sc}(j:Tw s){cas:Int}{data:Bs}(g:Ay p=0)(k:Ep a.op=true):(Dt v p s cas data).need=[]∧LH v a (Dt v p s cas data):=by
 have hl:=j.len;obtain⟨u,y,o,m⟩:=qN hl (AN v p).1 (AN v p).2 cas data.length;unfold Dt;by_cases h:(Cd s (AN v p).1 (AN v p).2 cas data.length).2.2.2≠0
 ·rw[if_pos h];exact⟨rfl,B4 O⟩
 ·rw[if_neg h];have t:IS s (AN v p).1 (AN v p).2 cas data.length=0:=by
   grind [IS,AN,Cd]
  have f:s.la+1<=30∧1<=s.la+1∧data.length<=96:=by
   have z:=(L4 j.bad).2.2.1;unfold IS at t
   repeat' split at t
   all_goals first|omega|cases t
  have r:=y;have e:Cd s (AN v p).1 (AN v p).2 cas data.length=(B9 (A_ s) (AN v p).1,s.la+1,FM (A_ s) (AN v p).1,0):=by unfold Cd;rw[if_neg (λc=>c t)]
  rw[e]at o r ⊢;simp only at o r;have ra:=eD (B9 (A_ s) (AN v p).1);have d:∀n∈FM (A_ s) (AN v p).1,1<=n∧n<=30:=λn w=>by
   obtain⟨x,hx,rfl⟩:=tU w;rcases QH.1 hx with hx|hx
   ·exact DO j x hx
   ·simp_all
  refine⟨rfl,DW (.number (s.la+1)) (if_pos ⟨O,O⟩) trivial rfl Xp k (by simp[Rx,Bl,Oc.op,HM]) ⟨?_,?_⟩ ?_⟩
  ·simp only[Rx,Bl,Oc.op,HM,Qh,Qb,Qg,Qr];omega
  ·simp only[Rx,Bl,Oc.op,HM,QC,ZI,QT];exact⟨DR (.inl rfl) (L9 g) (Cp g) O,DR (.inl rfl) (Oo g ⟨f.2.1,f.1⟩) (Cp g) O,Wf g d⟩
  ·exact i
def Dg(v:Vw)(p:Bs)(s:Sc)(gone:List Int)(e:Int):Oc:=if e≠0 then Fz v e else IC (HM v) p s gone
def aHZ{s:Sc}(j:s.rs.length<=1000){gnl:Bool}{gone:List Int}(z:gone.length<=900){e:Int}(c:0<=e∧e<=99)(g:a.pa.length<=1000000):∃ol,WR ⟨v,a,k⟩ (HM v) [.agg (HO s),.slice gnl [] (AI gone),.int .i64 e]=some (.tup [],Dg v a.pa s gone e,ol):=by
 unfold Dg;by_cases h:e≠0
 ·rw[if_pos h];exact⟨_,aAO ⟨v,a,k⟩ (HM v) s gnl gone e (IT v) O⟩
 ·rw[if_neg h];obtain rfl:=Decidable.not_not.1 h;exact⟨_,aKn ⟨v,a,k⟩ (HM v) s gnl gone (IT v) z j g⟩
def M7(r:Ih v){p:Bs}{s:Sc}{gone:List Int}(z:gone.length<=30){e:Int}(c:0<=e∧e<=99)(g:Ay p=0)(k:Ep a.op=true)(j:s.rs.length<=6)(w:∀n∈gone,1<=n∧n<=30):(Dg v p s gone e).need=[]∧LH v a (Dg v p s gone e):=by
 unfold Dg;by_cases h:e≠0
 ·rw[if_pos h];exact⟨rfl,B4 O⟩
 ·rw[if_neg h];have o:=eD s;refine⟨rfl,DW .done rfl trivial rfl Xp k (by simp[IC,Bl,Oc.op,HM]) ⟨?_,?_⟩ r⟩
  ·grind [IC,Bl,Oc.op,HM]
  ·grind [IC,Bl,Oc.op,HM,DR,L9,Cp,Wf]
def LL(ns:List Int)(n:Nat):∀(l:List Rw)(j:Nat),∀q∈CM ns n j l,∃x∈l,x.1=q
 |[],j,q,h=>Xc
 |x::r,j,q,h=>by
  unfold CM at h;split at h
  ·rcases Qn.1 h with rfl|h
   ·simp_all
   ·obtain⟨y,s,e⟩:=LL ns n r (j+1) q h;exact⟨y,Qu _ s,e⟩
  ·obtain⟨y,s,e⟩:=LL ns n r (j+1) q h;exact⟨y,Qu _ s,e⟩
def wY{s:Sc}(j:Tw s)(ns:List Int)(c:Nat):∀q∈(Bj s ns c).2.1,1<=q∧q<=30:=λq z=>by
 unfold Bj at z
 repeat' split at z
 ·cases z
 ·cases z
 ·obtain⟨x,p,rfl⟩:=LL _ _ _ _ q z;exact DO j x p
def aAk{s:Sc}(k:Tw s)(q j:Int)(b:Bool):∀n∈(Cy s q j b).2.1,1<=n∧n<=30:=λn w=>by
 unfold Cy at w;split at w
 ·cases w
 ·obtain⟨x,p,rfl⟩:=tU w;exact DO k x p
theorem TQ(ns:List Int)(n:Nat):∀(l:List Rw)(j:Nat),(CM ns n j l).length<=l.length
 |[],j=>Qe _
 |x::r,j=>by
  unfold CM;have:=TQ ns n r (j+1);split<;>simp only[Qb]<;>omega
def M6{s:Sc}(j:s.rs.length<=6)(ns:List Int)(c:Nat):(0<=(Bj s ns c).2.2∧(Bj s ns c).2.2<=99)∧(Bj s ns c).1.rs.length<=6∧(Bj s ns c).2.1.length<=6:=by
 grind [Bj,Of,TQ]
def gX{s:Sc}(k:s.rs.length<=6)(q j:Int)(b:Bool):(0<=(Cy s q j b).2.2∧(Cy s q j b).2.2<=99)∧(Cy s q j b).1.rs.length<=6∧(Cy s q j b).2.1.length<=6:=by
 grind [Cy,B9,FM]
end
end Go.Vd
end
