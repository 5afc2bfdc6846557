/- A part of the proof; nothing in it is assumed. -/
import Derived.Test.YtpiplnfjodahpaaGreatDoorMReadsP3
import Derived.Shelf.Strings.Repeat
import Derived.Laws.CopyOwn
import Derived.Shelf.Sort.Plain
import Derived.Shelf.Slices.CompactS
import Derived.Sort.OwnSorted
import Derived.Lib.OwnBridge
import Derived.Shelf.Slices.In.SortNone
import Derived.Laws.EntriesVeiled

set_option linter.unusedSimpArgs false
set_option linter.unusedVariables false
set_option linter.defProp false
set_option maxHeartbeats 4000000
set_option maxRecDepth 100000
open Nat renaming le_of_ble_eq_true→Qa,reduceEqDiff→Qc,reduceAdd→Qe,le_refl→Qg,zero_le→Qi,zero_add→Ql,succ_ne_zero→Qp,zero_ne_one→QA,le_trans→QF,sub_zero→QL,lt_trichotomy→ZI,not_lt_zero→ZN,reduceLT→ZU,lt_or_ge→ZV
open List renaming length_cons→Qb,getElem?_eq_getElem→Qf,length_nil→Qh,length_append→Qj,filter_cons→Qk,getElem?_cons_succ→Qm,mem_cons_self→Qq,mem_cons→Qr,take_of_length_le→Qt,length_mergeSort→Qu,mem_map→Qw,getElem?_eq_some_iff→Qz,getD→QC,pairwise_iff_getElem→QD,mem_cons_of_mem→QG,nil_append→QH,length_map→QI,getElem_of_mem→QK,getElem_mem→QM,pairwise_cons→QN,nodup_iff_pairwise_ne→QO,getD_eq_getElem?_getD→QP,getElem?_append_left→QQ,mem_append→QR,mem_filter→QS,take_succ_eq_append_getElem→QT,mem_of_getElem?→QU,map_cons→QW,filter_sublist→QX,drop_zero→QZ,drop_eq_nil_of_le→Q_,filter_append→Q0,take_append_drop→Q2,append_assoc→Q3,take_zero→Q4,forall_mem_cons→Q5,length_take→Q6,length_filterMap_le→Q9,map_nil→Za,getElem?_map→Zb,take_add_one→Zc,all_eq_true→Zd,eq_nil_of_length_eq_zero→Ze,mem_of_mem_take→Zf,append_nil→Zg,countP_eq_length_filter→Zh,take_succ_cons→Zi,mem_singleton→Zj,getElem?_append_right→Zk,find?_eq_none→Zl,drop_eq_getElem_cons→Zm,any_eq_false→Zn,find?_append→Zo,not_mem_nil→Zp,take→Zq,take_length→Zs,length_eq_zero_iff→Zt,mem_flatMap→Zu,filter_eq_nil_iff→Zx,map_append→Zz,length_filter_le→ZA,replicate→ZC,mem_of_mem_drop→ZD,mergeSort_perm→ZE,length_pos_iff→ZF,flatMap_cons→ZK,suffix_cons→ZL,isEmpty_iff→ZM,nodup_cons→ZO,find?_cons→ZP,map_take→ZR,getLast?→ZS,sum_cons→ZT,length→ZX
open Go.Proofs.Tryz renaming prog→Qd
open Int renaming toNat_natCast→Qn,toNat_of_nonneg→QJ,toNat_zero→QY,lt_irrefl→Q8,toNat_one→ZG,reduceLE→ZJ,le_refl→ZW
open List.cons renaming injEq→Qo,inj→Z_
open And renaming intro→Qs
open Option.some renaming injEq→Qv,inj→ZZ
open Array renaming getElem?_eq_some_iff→Qx,size_push→Q1
open Option renaming map_eq_some_iff→Qy,isSome_some→QE,getD_some→Q7,bind_some→Zr
open Bool renaming and_eq_true→QB,true_or→Zv,or_true→Zw,or_eq_true→Zy,false_and→ZB,false_or→ZH,and_false→ZQ
open Prod.mk renaming injEq→QV
open Iff renaming intro→ZY
open Go.Proofs.Tryz
noncomputable section
namespace Go.Vd
open Go.Proofs Go.RowKit
def R6:=Ao [(218,wQ Df),(221,wQ V8),(223,rdQ yO),(222,Ac aJT),(224,wQ V6),(144,wQ OD),(145,wQ gG),(225,wQ aIM),(226,Ac aJR),(227,Ac aJP),(228,Ac aJN)]
def Ue:Wb->Oc->List D->Option WY:=RW R6 SF [] 172
def aYl:(wQ Ue).ok Qd 154:=Dt (Ai func154) (Aa aLr (Aa aLp (Aa aS9 (Aa aVK (Aa aVI (Aa Sz (Aa kN (Aa aVH (Aa aVG (Aa aVF (Aa aVE Ad)))))))))))
def aEy(w:Wb)(o:Oc)(s:Sc)(r:Bool)(c:Oc)(y:o.nl=true->o.ops=[])(z:Df w o [.str w.a.pa]=some (.tup [.agg (Hb s),.bool r,.bool false],c,none)):Ue w o []=some (.tup [],c,none):=by
 refine A8 y ⟨Qa rfl,λh=>((E5 z).2.1 rfl),λl h=>Xc,λi m fr t x v ia n0=>?_⟩;have k:=Wt.start x v;unfold SF;have g:=AN x.1;unfold Hb at *;simp only[↓C2,G8,Hj,GY,simprocAttr,g,AE R6 218];refine Aq k z (λM c1 p=>?_);simp only[G7,↓C2,GY,simprocAttr];exact c1.put.put.end0 x.2.2
def yH(w:Wb)(o:Oc)(s:Sc)(r:Bool)(n:Oc)(ol:Option (List Nat))(y:o.nl=true->o.ops=[])(z:Df w o [.str w.a.pa]=some (.tup [.agg (Hb s),.bool r,.bool true],o,none))(q:w.a.op=10)(e:V8 w o [.str w.a.pa,.agg (Hb s),.int .i64 w.a.cas,.str w.a.da]=some (.tup [],n,ol)):Ue w o []=some (.tup [],n,ol.map (·++[41])):=by
 refine A8 y ⟨Qa rfl,λh=>CH e h,λl h=>CG e h,λi m fr t x v ia n0=>?_⟩;have k:=Wt.start x v;unfold SF;have g:=AN x.1;unfold Hb at *;simp only[↓C2,G8,Hj,GY,simprocAttr,g,AE R6 218];refine Aq k z (λM c1 d=>?_);have g:=AN c1.at_.1;simp only[G7,↓C2,GY,simprocAttr,g,n0,AE R6 221,q];refine CC c1.put.put e (λb u hu j f=>?_);simp only[↓C2,H_,simprocAttr];refine As.intro (λp c=>Xq) ?_;simp only[↓C2,G8,simprocAttr];exact j.endc x.2.2
def aEx(w:Wb)(o:Oc)(s:Sc)(c:Oc)(ol:Option (List Nat))(y:o.nl=true->o.ops=[])(z:Df w o [.str w.a.pa]=some (.tup [.agg (Hb s),.bool false,.bool true],o,none))(n:w.a.op≠10)(d:w.a.op≠15)(r:OD w o [.int .i64 6]=some (.tup [],c,ol)):Ue w o []=some (.tup [],c,ol.map (·++[35])):=by
 refine A8 y ⟨Qa rfl,λh=>CH r h,λl h=>CG r h,λi m fr t x v ia n0=>?_⟩;have k:=Wt.start x v;unfold SF;have g:=AN x.1;unfold Hb at *;simp only[↓C2,G8,Hj,GY,simprocAttr,g,AE R6 218];refine Aq k z (λM c1 p=>?_);have g:=AN c1.at_.1;simp only[G7,↓C2,GY,simprocAttr,g,n0,eq_false n,eq_false d,AE R6 144];refine Aq c1.put.put r (λb j f=>?_);simp only[↓C2,G8,simprocAttr];exact j.endc x.2.2
def yJ(w:Wb)(o:Oc)(s:Sc)(c:Oc)(ol:Option (List Nat))(y:o.nl=true->o.ops=[])(z:Df w o [.str w.a.pa]=some (.tup [.agg (Hb s),.bool true,.bool true],o,none))(q:w.a.op=14)(ta:gG w o [.agg (Hy (.about s))]=some (.tup [],c,ol)):Ue w o []=some (.tup [],c,ol.map (·++[44])):=by
 refine A8 y ⟨Qa rfl,λh=>CH ta h,λl h=>CG ta h,λi m fr t x v ia n0=>?_⟩;have k:=Wt.start x v;unfold SF;have g:=AN x.1;unfold Hb at *;simp only[↓C2,G8,Hj,GY,simprocAttr,g,AE R6 218];refine Aq k z (λM c1 p=>?_);have g:=AN c1.at_.1;simp only[G7,↓C2,GY,simprocAttr,g,n0,AE R6 145,q];refine Aq c1.put.put ta (λb j f=>?_);simp only[↓C2,G8,simprocAttr];exact j.endc x.2.2
def yI(w:Wb)(o:Oc)(s:Sc)(c:Oc)(ol:Option (List Nat))(y:o.nl=true->o.ops=[])(z:Df w o [.str w.a.pa]=some (.tup [.agg (Hb s),.bool true,.bool true],o,none))(q:w.a.op=16)(b:aIM w o [.agg (Hb s)]=some (.tup [],c,ol)):Ue w o []=some (.tup [],c,ol.map (·++[50])):=by
 refine A8 y ⟨Qa rfl,λh=>CH b h,λl h=>CG b h,λi m fr t x v ia n0=>?_⟩;have k:=Wt.start x v;unfold SF;have g:=AN x.1;unfold Hb at *;simp only[↓C2,G8,Hj,GY,simprocAttr,g,AE R6 218];refine Aq k z (λM c1 p=>?_);have g:=AN c1.at_.1;simp only[G7,↓C2,GY,simprocAttr,g,n0,AE R6 225,q];refine Aq c1.put.put b (λd j f=>?_);simp only[↓C2,G8,simprocAttr];exact j.endc x.2.2
def mW(w:Wb)(o:Oc)(s:Sc)(is:Bool)(u:Oc)(ol:Option (List Nat))(y:o.nl=true->o.ops=[])(z:Df w o [.str w.a.pa]=some (.tup [.agg (Hb s),.bool is,.bool true],o,none))(ga:w.a.op=15)(q:Int)(b:Bool)(s2:Sc)(gnl:Bool)(gone:List Int)(e:Int)(r:V6 w o [.agg (Hb s2),.slice gnl [] (AJ gone),.int .i64 e]=some (.tup [],u,ol))(c:yO w o [.str w.a.pa]=some (.agg [.int .i64 q,.bool b],o,none))(d:aJT [.agg (Hb s),.agg [.int .i64 q,.bool b],.int .i64 w.a.n,.bool w.a.fl]=some (.tup [.agg (Hb s2),.slice gnl [] (AJ gone),.int .i64 e])):Ue w o []=some (.tup [],u,ol.map (·++[62])):=by
 refine A8 y ⟨Qa rfl,λh=>CH r h,λl h=>CG r h,λi m fr t x v ia n0=>?_⟩;have k:=Wt.start x v;unfold SF;have g:=AN x.1;unfold Hb at *;simp only[↓C2,G8,Hj,GY,simprocAttr,g,AE R6 218];refine Aq k z (λM c1 c2=>?_);have g:=AN c1.at_.1;simp only[G7,↓C2,GY,simprocAttr,g,n0,AE R6 223,ga];have a1:=aEi (((c1.put (q:=11) (p:=0) (ys:=[.int .i64 0,.bool false,.int .i64 0,.slice true [] []])).put (q:=11) (p:=0) (ys:=[.int .i64 s.mx,.bool s.cas,.int .i64 s.la,.slice s.nl [] (A5 s.rs)])).at_.1);refine aQG c1.put.put.at_ c ?_;simp only[G7,↓C2,GY,simprocAttr,g,n0,Ae R6 222,d];refine Ws ?_;simp only[G7,↓C2,GY,simprocAttr,AE R6 224];refine Aq c1.put.put.put.put r (λM2 j f=>?_);simp only[↓C2,G8,simprocAttr];exact j.endc x.2.2
def mV(w:Wb)(o:Oc)(s:Sc)(c:Oc)(ol:Option (List Nat))(y:o.nl=true->o.ops=[])(z:Df w o [.str w.a.pa]=some (.tup [.agg (Hb s),.bool true,.bool true],o,none))(q:w.a.op=11)(n:Sc)(e:Int)(r:V6 w o [.agg (Hb n),.slice true [] [],.int .i64 e]=some (.tup [],c,ol))(d:aJR [.agg (Hb s),.slice w.a.nln [] (AJ w.a.ns)]=some (.tup [.agg (Hb n),.int .i64 e])):Ue w o []=some (.tup [],c,ol.map (·++[71])):=by
 refine A8 y ⟨Qa rfl,λh=>CH r h,λl h=>CG r h,λi m fr t x v ia n0=>?_⟩;have k:=Wt.start x v;unfold SF;have g:=AN x.1;unfold Hb at *;simp only[↓C2,G8,Hj,GY,simprocAttr,g,AE R6 218];refine Aq k z (λM c1 p=>?_);have g:=AN c1.at_.1;simp only[G7,↓C2,GY,simprocAttr,g,n0,Ae R6 226,d,q];refine Ws ?_;simp only[G7,↓C2,GY,simprocAttr,AE R6 224];refine Aq c1.put.put.put.put r (λb j f=>?_);simp only[↓C2,G8,simprocAttr];exact j.endc x.2.2
def V2(w:Wb)(o:Oc)(s:Sc)(c:Oc)(ol:Option (List Nat))(y:o.nl=true->o.ops=[])(z:Df w o [.str w.a.pa]=some (.tup [.agg (Hb s),.bool true,.bool true],o,none))(q:w.a.op=12)(n:Sc)(e:Int)(r:V6 w o [.agg (Hb n),.slice true [] [],.int .i64 e]=some (.tup [],c,ol))(d:aJP [.agg (Hb s),.slice w.a.nln [] (AJ w.a.ns)]=some (.tup [.agg (Hb n),.int .i64 e])):Ue w o []=some (.tup [],c,ol.map (·++[78])):=by
 refine A8 y ⟨Qa rfl,λh=>CH r h,λl h=>CG r h,λi m fr t x v ia n0=>?_⟩;have k:=Wt.start x v;unfold SF;have g:=AN x.1;unfold Hb at *;simp only[↓C2,G8,Hj,GY,simprocAttr,g,AE R6 218];refine Aq k z (λM c1 p=>?_);have g:=AN c1.at_.1;simp only[G7,↓C2,GY,simprocAttr,g,n0,Ae R6 227,d,q];refine Ws ?_;simp only[G7,↓C2,GY,simprocAttr,AE R6 224];refine Aq c1.put.put.put.put r (λb j f=>?_);simp only[↓C2,G8,simprocAttr];exact j.endc x.2.2
def gD(w:Wb)(o:Oc)(s:Sc)(c:Oc)(ol:Option (List Nat))(y:o.nl=true->o.ops=[])(z:Df w o [.str w.a.pa]=some (.tup [.agg (Hb s),.bool true,.bool true],o,none))(q:w.a.op=13)(n:Sc)(gnl:Bool)(gone:List Int)(e:Int)(r:V6 w o [.agg (Hb n),.slice gnl [] (AJ gone),.int .i64 e]=some (.tup [],c,ol))(d:aJN [.agg (Hb s),.slice w.a.nln [] (AJ w.a.ns)]=some (.tup [.agg (Hb n),.slice gnl [] (AJ gone),.int .i64 e])):Ue w o []=some (.tup [],c,ol.map (·++[81])):=by
 refine A8 y ⟨Qa rfl,λh=>CH r h,λl h=>CG r h,λi m fr t x v ia n0=>?_⟩;have k:=Wt.start x v;unfold SF;have g:=AN x.1;unfold Hb at *;simp only[↓C2,G8,Hj,GY,simprocAttr,g,AE R6 218];refine Aq k z (λM c1 p=>?_);have g:=AN c1.at_.1;simp only[G7,↓C2,GY,simprocAttr,g,n0,Ae R6 228,d,q];refine Ws ?_;simp only[G7,↓C2,GY,simprocAttr,AE R6 224];refine Aq c1.put.put.put.put r (λb j f=>?_);simp only[↓C2,G8,simprocAttr];exact j.endc x.2.2
def HM:=Ao [(218,wQ Df),(144,wQ OD),(219,Ac N9),(211,Ac Fo),(220,Ac OS),(216,wQ V9),(145,wQ gG),(221,wQ V8)]
def Wv:Wb->Oc->List D->Option WY:=RW HM NV [] 113
def aYm:(wQ Wv).ok Qd 153:=Dt (Ai func153) (Aa aLr (Aa Sz (Aa aVL (Aa IL (Aa aLq (Aa aB1 (Aa kN (Aa aLp Ad))))))))
def aEA(w:Wb)(o:Oc)(s:Sc)(r:Bool)(c:Oc)(y:o.nl=true->o.ops=[])(z:Df w o [.str w.a.pa]=some (.tup [.agg (Hb s),.bool r,.bool false],c,none)):Wv w o []=some (.tup [],c,none):=by
 refine A8 y ⟨Qa rfl,λh=>((E5 z).2.1 rfl),λl h=>Xc,λi m fr t x v ia n0=>?_⟩;have k:=Wt.start x v;unfold NV;have g:=AN x.1;unfold Hb at *;simp only[↓C2,G8,Hj,GY,simprocAttr,g,AE HM 218];refine Aq k z (λM c1 p=>?_);simp only[G7,↓C2,GY,simprocAttr];exact c1.put.put.end0 x.2.2
def aEz(w:Wb)(o:Oc)(s:Sc)(c:Oc)(ol:Option (List Nat))(y:o.nl=true->o.ops=[])(z:Df w o [.str w.a.pa]=some (.tup [.agg (Hb s),.bool false,.bool true],o,none))(r:OD w o [.int .i64 6]=some (.tup [],c,ol)):Wv w o []=some (.tup [],c,ol.map (·++[20])):=by
 refine A8 y ⟨Qa rfl,λh=>CH r h,λl h=>CG r h,λi m fr t x v ia n0=>?_⟩;have k:=Wt.start x v;unfold NV;have g:=AN x.1;unfold Hb at *;simp only[↓C2,G8,Hj,GY,simprocAttr,g,AE HM 218];refine Aq k z (λM c1 p=>?_);have g:=AN c1.at_.1;simp only[G7,↓C2,GY,simprocAttr,AE HM 144];refine Aq c1.put.put r (λb j f=>?_);simp only[↓C2,G8,simprocAttr];exact j.endc x.2.2
def yL(w:Wb)(o:Oc)(s:Sc)(c:Oc)(ol:Option (List Nat))(y:o.nl=true->o.ops=[])(z:Df w o [.str w.a.pa]=some (.tup [.agg (Hb s),.bool true,.bool true],o,none))(q:w.a.op=9)(nn e:Int)(u rb:Bool)(b:N9 [.agg (Hb s),.int .i64 (w.a.n)]=some (.tup [.agg [.int .i64 nn,.bool u,.bool rb],.int .i64 e]))(f:e≠0)(r:OD w o [.int .i64 e]=some (.tup [],c,ol)):Wv w o []=some (.tup [],c,ol.map (·++[44])):=by
 refine A8 y ⟨Qa rfl,λh=>CH r h,λl h=>CG r h,λi m fr t x v ia n0=>?_⟩;have k:=Wt.start x v;unfold NV;have g:=AN x.1;unfold Hb at *;simp only[↓C2,G8,Hj,GY,simprocAttr,g,AE HM 218];refine Aq k z (λM c1 p=>?_);have g:=AN c1.at_.1;simp only[G7,↓C2,GY,simprocAttr,g,n0,Ae HM 219,b,eq_false f,AE HM 144,q];refine Aq c1.put.put.put.put r (λd j d2=>?_);simp only[↓C2,G8,simprocAttr];exact j.endc x.2.2
def yK(w:Wb)(o:Oc)(s:Sc)(o2:Oc)(ol:Option (List Nat))(g:o.nl=true->o.ops=[])(z:Df w o [.str w.a.pa]=some (.tup [.agg (Hb s),.bool true,.bool true],o,none))(q:w.a.op=9)(nn:Int)(ra rb:Bool)(b:N9 [.agg (Hb s),.int .i64 (w.a.n)]=some (.tup [.agg [.int .i64 nn,.bool ra,.bool rb],.int .i64 0]))(at_ u:Bs)(j:Bool)(r:Fo [.int .u8 2,.str w.a.pa,.int .i64 nn]=some (.str at_))(y:OS [.agg (HG w.k),.str at_]=some (.tup [.str u,.bool j,.bool false]))(e:V9 w o [.str at_,.bool false]=some (.tup [],o2,ol)):Wv w o []=some (.tup [],o2,ol.map (·++[69])):=by
 refine A8 g ⟨Qa rfl,λh=>CH e h,λl h=>CG e h,λi m fr t x v ia n0=>?_⟩;have hW:=Wt.start x v;unfold NV;have xx:=AN x.1;unfold Hb at *;unfold HG at y;simp only[↓C2,G8,Hj,GY,simprocAttr,xx,AE HM 218];refine Aq hW z (λM c1 d=>?_);have xx:=AN c1.at_.1;simp only[G7,↓C2,GY,simprocAttr,xx,n0,Ae HM 219,b,Ae HM 211,r,q];refine As.intro (λp c=>Xq) ?_;simp only[G7,↓C2,GY,simprocAttr,xx,n0,Ae HM 220,y,AE HM 216];refine Aq c1.put.put.put.put e (λM2 f d2=>?_);simp only[↓C2,G8,simprocAttr];exact f.endc x.2.2
def gE(w:Wb)(o:Oc)(s:Sc)(o2:Oc)(ol:Option (List Nat))(g:o.nl=true->o.ops=[])(z:Df w o [.str w.a.pa]=some (.tup [.agg (Hb s),.bool true,.bool true],o,none))(q:w.a.op=9)(nn:Int)(e rb:Bool)(b:N9 [.agg (Hb s),.int .i64 (w.a.n)]=some (.tup [.agg [.int .i64 nn,.bool e,.bool rb],.int .i64 0]))(at_ u:Bs)(r:Fo [.int .u8 2,.str w.a.pa,.int .i64 nn]=some (.str at_))(y:OS [.agg (HG w.k),.str at_]=some (.tup [.str u,.bool true,.bool true]))(ta:gG w o [.agg (Hy (.found nn u))]=some (.tup [],o2,ol)):Wv w o []=some (.tup [],o2,ol.map (·++[81])):=by
 refine A8 g ⟨Qa rfl,λh=>CH ta h,λl h=>CG ta h,λi m fr t x v ia n0=>?_⟩;have hW:=Wt.start x v;unfold NV;have f:=AN x.1;unfold Hb at *;unfold HG at y;simp only[↓C2,G8,Hj,GY,simprocAttr,f,AE HM 218];refine Aq hW z (λM c1 d=>?_);have f:=AN c1.at_.1;simp only[G7,↓C2,GY,simprocAttr,f,n0,Ae HM 219,b,Ae HM 211,r,q];refine As.intro (λp c=>Xq) ?_;simp only[G7,↓C2,GY,simprocAttr,f,n0,Ae HM 220,y,AE HM 145,q];refine Aq c1.put.put.put.put ta (λM2 j d2=>?_);simp only[↓C2,G8,simprocAttr];exact j.endc x.2.2
def V3(w:Wb)(o:Oc)(s:Sc)(o2:Oc)(ol:Option (List Nat))(g:o.nl=true->o.ops=[])(z:Df w o [.str w.a.pa]=some (.tup [.agg (Hb s),.bool true,.bool true],o,none))(q:w.a.op=9)(nn:Int)(e rb:Bool)(b:N9 [.agg (Hb s),.int .i64 (w.a.n)]=some (.tup [.agg [.int .i64 nn,.bool e,.bool rb],.int .i64 0]))(at_ u:Bs)(r:Fo [.int .u8 2,.str w.a.pa,.int .i64 nn]=some (.str at_))(y:OS [.agg (HG w.k),.str at_]=some (.tup [.str u,.bool false,.bool true]))(ta:gG w o [.agg (Hy (.found nn []))]=some (.tup [],o2,ol)):Wv w o []=some (.tup [],o2,ol.map (·++[82])):=by
 refine A8 g ⟨Qa rfl,λh=>CH ta h,λl h=>CG ta h,λi m fr t x v ia n0=>?_⟩;have hW:=Wt.start x v;unfold NV;have f:=AN x.1;unfold Hb at *;unfold HG at y;simp only[↓C2,G8,Hj,GY,simprocAttr,f,AE HM 218];refine Aq hW z (λM c1 d=>?_);have f:=AN c1.at_.1;simp only[G7,↓C2,GY,simprocAttr,f,n0,Ae HM 219,b,Ae HM 211,r,q];refine As.intro (λp c=>Xq) ?_;simp only[G7,↓C2,GY,simprocAttr,f,n0,Ae HM 220,y,AE HM 145,q];refine Aq c1.put.put.put.put ta (λM2 j d2=>?_);simp only[↓C2,G8,simprocAttr];exact j.endc x.2.2
def mY(w:Wb)(o:Oc)(s:Sc)(c:Oc)(ol:Option (List Nat))(y:o.nl=true->o.ops=[])(z:Df w o [.str w.a.pa]=some (.tup [.agg (Hb s),.bool true,.bool true],o,none))(q:w.a.op=18)(nn e:Int)(u n:Bool)(b:N9 [.agg (Hb s),.int .i64 (0)]=some (.tup [.agg [.int .i64 nn,.bool u,.bool n],.int .i64 e]))(f:e≠0)(r:OD w o [.int .i64 e]=some (.tup [],c,ol)):Wv w o []=some (.tup [],c,ol.map (·++[45])):=by
 refine A8 y ⟨Qa rfl,λh=>CH r h,λl h=>CG r h,λi m fr t x v ia n0=>?_⟩;have k:=Wt.start x v;unfold NV;have g:=AN x.1;unfold Hb at *;simp only[↓C2,G8,Hj,GY,simprocAttr,g,AE HM 218];refine Aq k z (λM c1 p=>?_);have g:=AN c1.at_.1;simp only[G7,↓C2,GY,simprocAttr,g,n0,Ae HM 219,b,eq_false f,AE HM 144,q];refine Aq c1.put.put.put.put r (λd j d2=>?_);simp only[↓C2,G8,simprocAttr];exact j.endc x.2.2
def mX(w:Wb)(o:Oc)(s:Sc)(o2:Oc)(ol:Option (List Nat))(g:o.nl=true->o.ops=[])(z:Df w o [.str w.a.pa]=some (.tup [.agg (Hb s),.bool true,.bool true],o,none))(q:w.a.op=18)(nn:Int)(ra rb:Bool)(b:N9 [.agg (Hb s),.int .i64 (0)]=some (.tup [.agg [.int .i64 nn,.bool ra,.bool rb],.int .i64 0]))(at_ u:Bs)(j:Bool)(r:Fo [.int .u8 2,.str w.a.pa,.int .i64 nn]=some (.str at_))(y:OS [.agg (HG w.k),.str at_]=some (.tup [.str u,.bool j,.bool false]))(e:V9 w o [.str at_,.bool false]=some (.tup [],o2,ol)):Wv w o []=some (.tup [],o2,ol.map (·++[70])):=by
 refine A8 g ⟨Qa rfl,λh=>CH e h,λl h=>CG e h,λi m fr t x v ia n0=>?_⟩;have hW:=Wt.start x v;unfold NV;have n:=AN x.1;unfold Hb at *;unfold HG at y;simp only[↓C2,G8,Hj,GY,simprocAttr,n,AE HM 218];refine Aq hW z (λM c1 d=>?_);have n:=AN c1.at_.1;simp only[G7,↓C2,GY,simprocAttr,n,n0,Ae HM 219,b,Ae HM 211,r,q];refine As.intro (λp c=>Xq) ?_;simp only[G7,↓C2,GY,simprocAttr,n,n0,Ae HM 220,y,AE HM 216];refine Aq c1.put.put.put.put e (λM2 f d2=>?_);simp only[↓C2,G8,simprocAttr];exact f.endc x.2.2
def N5(w:Wb)(o:Oc)(s:Sc)(o2:Oc)(g:o.nl=true->o.ops=[])(z:Df w o [.str w.a.pa]=some (.tup [.agg (Hb s),.bool true,.bool true],o,none))(q:w.a.op=18)(nn:Int)(e rb:Bool)(b:N9 [.agg (Hb s),.int .i64 (0)]=some (.tup [.agg [.int .i64 nn,.bool e,.bool rb],.int .i64 0]))(at_ u:Bs)(r:Fo [.int .u8 2,.str w.a.pa,.int .i64 nn]=some (.str at_))(y:OS [.agg (HG w.k),.str at_]=some (.tup [.str u,.bool true,.bool true]))(s2:Sc)(n:Bool)(j:Df w o [.str w.a.ot]=some (.tup [.agg (Hb s2),.bool n,.bool false],o2,none)):Wv w o []=some (.tup [],o2,none):=by
 refine A8 g ⟨Qa rfl,λh=>((E5 j).2.1 rfl),λl h=>Xc,λi m fr t x v ia n0=>?_⟩;have hW:=Wt.start x v;unfold NV;have xx:=AN x.1;unfold Hb at *;unfold HG at y;simp only[↓C2,G8,Hj,GY,simprocAttr,xx,AE HM 218];refine Aq hW z (λM c1 d=>?_);have xx:=AN c1.at_.1;simp only[G7,↓C2,GY,simprocAttr,xx,n0,Ae HM 219,b,Ae HM 211,r,q];refine As.intro (λp c=>Xq) ?_;simp only[G7,↓C2,GY,simprocAttr,xx,n0,Ae HM 220,y,AE HM 218,q];refine Aq c1.put.put.put.put j (λM2 f d2=>?_);have xx:=AN f.at_.1;simp only[G7,↓C2,GY,simprocAttr];exact f.put.put.end0 x.2.2
def gF(w:Wb)(o:Oc)(s:Sc)(o2:Oc)(ol:Option (List Nat))(g:o.nl=true->o.ops=[])(z:Df w o [.str w.a.pa]=some (.tup [.agg (Hb s),.bool true,.bool true],o,none))(q:w.a.op=18)(nn:Int)(ra rb:Bool)(b:N9 [.agg (Hb s),.int .i64 (0)]=some (.tup [.agg [.int .i64 nn,.bool ra,.bool rb],.int .i64 0]))(at_ ea:Bs)(r:Fo [.int .u8 2,.str w.a.pa,.int .i64 nn]=some (.str at_))(y:OS [.agg (HG w.k),.str at_]=some (.tup [.str ea,.bool true,.bool true]))(s2:Sc)(f:Bool)(j:Df w o [.str w.a.ot]=some (.tup [.agg (Hb s2),.bool f,.bool true],o,none))(e:V8 w o [.str w.a.ot,.agg (Hb s2),.int .i64 (-1),.str ea]=some (.tup [],o2,ol)):Wv w o []=some (.tup [],o2,ol.map (·++[101])):=by
 refine A8 g ⟨Qa rfl,λh=>CH e h,λl h=>CG e h,λi m fr t x v ia n0=>?_⟩;have hW:=Wt.start x v;unfold NV;have xx:=AN x.1;unfold Hb at *;unfold HG at y;simp only[↓C2,G8,Hj,GY,simprocAttr,xx,AE HM 218];refine Aq hW z (λM c1 d=>?_);have xx:=AN c1.at_.1;simp only[G7,↓C2,GY,simprocAttr,xx,n0,Ae HM 219,b,Ae HM 211,r,q];refine As.intro (λp c=>Xq) ?_;simp only[G7,↓C2,GY,simprocAttr,xx,n0,Ae HM 220,y,AE HM 218,q];refine Aq c1.put.put.put.put j (λM2 d1 d2=>?_);have xx:=AN d1.at_.1;simp only[G7,↓C2,GY,simprocAttr,xx,n0,AE HM 221];refine CC d1.put.put e (λM3 u hu n e2=>?_);simp only[↓C2,H_,simprocAttr];refine As.intro (λp c=>Xq) ?_;simp only[↓C2,G8,simprocAttr];exact n.endc x.2.2
def Nk(w:Wb)(o:Oc)(s:Sc)(o2:Oc)(g:o.nl=true->o.ops=[])(z:Df w o [.str w.a.pa]=some (.tup [.agg (Hb s),.bool true,.bool true],o,none))(q:w.a.op=18)(nn:Int)(e rb:Bool)(b:N9 [.agg (Hb s),.int .i64 (0)]=some (.tup [.agg [.int .i64 nn,.bool e,.bool rb],.int .i64 0]))(at_ u:Bs)(r:Fo [.int .u8 2,.str w.a.pa,.int .i64 nn]=some (.str at_))(y:OS [.agg (HG w.k),.str at_]=some (.tup [.str u,.bool false,.bool true]))(s2:Sc)(n:Bool)(j:Df w o [.str w.a.ot]=some (.tup [.agg (Hb s2),.bool n,.bool false],o2,none)):Wv w o []=some (.tup [],o2,none):=by
 refine A8 g ⟨Qa rfl,λh=>((E5 j).2.1 rfl),λl h=>Xc,λi m fr t x v ia n0=>?_⟩;have hW:=Wt.start x v;unfold NV;have xx:=AN x.1;unfold Hb at *;unfold HG at y;simp only[↓C2,G8,Hj,GY,simprocAttr,xx,AE HM 218];refine Aq hW z (λM c1 d=>?_);have xx:=AN c1.at_.1;simp only[G7,↓C2,GY,simprocAttr,xx,n0,Ae HM 219,b,Ae HM 211,r,q];refine As.intro (λp c=>Xq) ?_;simp only[G7,↓C2,GY,simprocAttr,xx,n0,Ae HM 220,y,AE HM 218,q];refine Aq c1.put.put.put.put j (λM2 f d2=>?_);have xx:=AN f.at_.1;simp only[G7,↓C2,GY,simprocAttr];exact f.put.put.end0 x.2.2
def V4(w:Wb)(o:Oc)(s:Sc)(o2:Oc)(ol:Option (List Nat))(g:o.nl=true->o.ops=[])(z:Df w o [.str w.a.pa]=some (.tup [.agg (Hb s),.bool true,.bool true],o,none))(q:w.a.op=18)(nn:Int)(ra rb:Bool)(b:N9 [.agg (Hb s),.int .i64 (0)]=some (.tup [.agg [.int .i64 nn,.bool ra,.bool rb],.int .i64 0]))(at_ ea:Bs)(r:Fo [.int .u8 2,.str w.a.pa,.int .i64 nn]=some (.str at_))(y:OS [.agg (HG w.k),.str at_]=some (.tup [.str ea,.bool false,.bool true]))(s2:Sc)(f:Bool)(j:Df w o [.str w.a.ot]=some (.tup [.agg (Hb s2),.bool f,.bool true],o,none))(e:V8 w o [.str w.a.ot,.agg (Hb s2),.int .i64 (-1),.str []]=some (.tup [],o2,ol)):Wv w o []=some (.tup [],o2,ol.map (·++[102])):=by
 refine A8 g ⟨Qa rfl,λh=>CH e h,λl h=>CG e h,λi m fr t x v ia n0=>?_⟩;have hW:=Wt.start x v;unfold NV;have xx:=AN x.1;unfold Hb at *;unfold HG at y;simp only[↓C2,G8,Hj,GY,simprocAttr,xx,AE HM 218];refine Aq hW z (λM c1 d=>?_);have xx:=AN c1.at_.1;simp only[G7,↓C2,GY,simprocAttr,xx,n0,Ae HM 219,b,Ae HM 211,r,q];refine As.intro (λp c=>Xq) ?_;simp only[G7,↓C2,GY,simprocAttr,xx,n0,Ae HM 220,y,AE HM 218,q];refine Aq c1.put.put.put.put j (λM2 d1 d2=>?_);have xx:=AN d1.at_.1;simp only[G7,↓C2,GY,simprocAttr,xx,n0,AE HM 221];refine CC d1.put.put e (λM3 u hu n e2=>?_);simp only[↓C2,H_,simprocAttr];refine As.intro (λp c=>Xq) ?_;simp only[↓C2,G8,simprocAttr];exact n.endc x.2.2
def aM4:=y0 f141 [] []
def aNQ:=y0 f85 [] []
end Go.Vd
namespace Go.Proofs
open Go.Shelf
def aQ:Go.Shelf.Ren:=⟨λ|105=>84|212=>139|99=>51|165=>121|166=>122|170=>140|169=>123|263=>204|264=>205|206=>105|240=>183|241=>184|276=>245|277=>246|n=>n,λ|9=>9|3=>3|4=>4|20=>20|0=>0|46=>109|109=>221|5=>5|72=>196|76=>200|51=>268|146=>269|53=>185|148=>271|70=>194|37=>108|75=>199|127=>252|164=>309|80=>159|n=>n,λ|n=>n⟩
def bH:Go.Proofs.Lays.n105 Qd aQ:={
 mixed:=Z
 f99:=func51.trans (congrArg some Z)
 f105:=func84.trans (congrArg some Z)
 f165:=func121.trans (congrArg some Z)
 f166:=func122.trans (congrArg some Z)
 f169:=func123.trans (congrArg some Z)
 f170:=func140.trans (congrArg some Z)
 f206:=func105.trans (congrArg some Z)
 f212:=func139.trans (congrArg some Z)
 f240:=func183.trans (congrArg some Z)
 f241:=func184.trans (congrArg some Z)
 f263:=func204.trans (congrArg some Z)
 f264:=func205.trans (congrArg some Z)
 f276:=func245.trans (congrArg some Z)
 f277:=func246.trans (congrArg some Z)
 t0:=underlying0
 a0:=isAgg0
 z0:=sizeOf0
 v0:=zeroValue0
 t3:=underlying3
 a3:=isAgg3
 z3:=sizeOf3
 v3:=zeroValue3
 t4:=underlying4
 a4:=isAgg4
 z4:=sizeOf4
 v4:=zeroValue4
 t5:=underlying5
 a5:=isAgg5
 z5:=sizeOf5
 v5:=zeroValue5
 t9:=underlying9
 a9:=isAgg9
 z9:=sizeOf9
 v9:=zeroValue9
 t20:=underlying20
 a20:=isAgg20
 z20:=sizeOf20
 v20:=zeroValue20
 t37:=underlying108
 a37:=isAgg108
 z37:=sizeOf108
 v37:=zeroValue108
 t46:=underlying109
 a46:=isAgg109
 z46:=sizeOf109
 v46:=zeroValue109
 t51:=underlying268
 a51:=isAgg268
 z51:=sizeOf268
 v51:=zeroValue268
 t53:=underlying185
 a53:=isAgg185
 z53:=sizeOf185
 v53:=zeroValue185
 t70:=underlying194
 a70:=isAgg194
 z70:=sizeOf194
 v70:=zeroValue194
 t72:=underlying196
 a72:=isAgg196
 z72:=sizeOf196
 v72:=zeroValue196
 t75:=underlying199
 a75:=isAgg199
 z75:=sizeOf199
 v75:=zeroValue199
 t76:=underlying200
 a76:=isAgg200
 z76:=sizeOf200
 v76:=zeroValue200
 t109:=underlying221
 a109:=isAgg221
 z109:=sizeOf221
 v109:=zeroValue221
 t127:=underlying252
 a127:=isAgg252
 z127:=sizeOf252
 v127:=zeroValue252
 t146:=underlying269
 a146:=isAgg269
 z146:=sizeOf269
 v146:=zeroValue269
 t148:=underlying271
 a148:=isAgg271
 z148:=sizeOf271
 v148:=zeroValue271
 t164:=underlying309
 a164:=isAgg309
 z164:=sizeOf309
 v164:=zeroValue309}
def aS:Builder.Extra Qd aQ:={
 sizeBuilder:=Z
 liesBuilder:=Z
 t5:=underlying5
 a5:=isAgg5
 z5:=sizeOf5
 v5:=zeroValue5
 infoByte:=Z
 cellsByte:=Z
 sizeByte:=Z
 neB5:=V}
end Go.Proofs
namespace Go.Vd
open Go.Proofs Go.RowKit
def aBE(t:Int):Bool:=decide (1<=t∧t<=6)
def Sy(t:Int):Int:=if aBE t=true then 1+t*16 else 0
def aY5:=Ao []
def aR3:=RF aY5 aM4 [.t 2] 9
def aVx:Kq aR3 141:=Am (Ai func141) Ad
def aJD(t:Int):aR3 [.int .i64 t]=some (.bool (aBE t)):=by
 refine Al (Qa rfl) ?_;unfold aM4;unfold aBE;by_cases c:1<=t
 ·have c':((1:Int)<=t)=True:=eq_true c;simp only[↓C2,G_,GY,simprocAttr,c']
  all_goals exact Y0
 ·have c':((1:Int)<=t)=False:=eq_false c;simp only[↓C2,G_,GY,simprocAttr,c']
  all_goals exact Y0
def aRu:=Ao [(141,Ac aR3)]
def aE2:=RF aRu aNQ [.t 2] 9
def aLu:Kq aE2 85:=Am (Ai func85) (Aa aVx Ad)
def sH(t:Int):aE2 [.int .i64 t]=some (.int .i64 (Sy t)):=by
 refine Al (Qa rfl) ?_;unfold aNQ;have a:=aJD t;unfold Sy;cases c:aBE t with
 |false=>
  rw[c]at a;simp only[↓C2,G_,GY,simprocAttr,Ae aRu 141,a]
  all_goals exact Y0
 |true=>
  have m:1<=t∧t<=6:=by simpa[aBE]using c
  have s:IntKind.i64.wrap (t*16)=t*16:=Hu O O;have y:IntKind.i64.wrap (1+t*16)=1+t*16:=Hu O O;rw[c]at a;simp only[↓C2,G_,GY,simprocAttr,Ae aRu 141,a,s,y]
  all_goals exact Y0
def RP:List D->Option D
 |[.str s,.int .i64 c]=>if 0<=c∧c<=1000000∧s.length*c.toNat<=1000000 then some (.str (Lib.repeatL s c.toNat))else none
 |_=>none
def aLv:Kq RP 84:=UU ⟨_,func84,Z,Z⟩ λds r h=>by
 unfold RP at h;split at h
 ·rename_i s c;split at h
  ·rename_i m;simp only[Qv]at h;subst h;refine⟨λd p=>?_,_,λw g=> .str _,λw=>?_⟩
   ·simp only[Qr,List.mem_nil_iff,or_false]at p;rcases p with rfl|rfl<;>rfl
   ·have t:=Go.Proofs.Any.strings_Repeat bH aS ⟨s.toArray⟩ c.toNat w O (by show s.toArray.size*_<=_;simp only[List.size_toArray];omega);rw[QJ m.1]at t;refine t.mono ?_;rintro e k ⟨rfl,z⟩;exact⟨rfl,z⟩
  ·cases h
 ·cases h
def aXj{s:Bs}{c:Int}(h:0<=c∧c<=1000000∧s.length*c.toNat<=1000000):RP [.str s,.int .i64 c]=some (.str (Lib.repeatL s c.toNat)):=if_pos h
def aHc(o:Oc)(te:Int):Oc:={({o with vw:={o.vw with te:=te+1}}:Oc).op 1 (Aw 5 [] 0) (Lib.repeatL [0] (Sy (te+1)).toNat)with rep:=HD .done}
def S57:=Ao [(144,wQ OD),(211,Ac Fo),(85,Ac aE2),(84,Ac RP),(210,wQ N6),(146,wQ zU)]
def W57:Wb->Oc->List D->Option WY:=RW S57 aQT [] 34
def aYs:(wQ W57).ok Qd 147:=Dt (Ai func147) (Aa Sz (Aa IL (Aa aLu (Aa aLv (Aa MJ (Aa kM Ad))))))
def aEI(w:Wb)(o:Oc)(c:Oc)(ol:Option (List Nat))(y:o.nl=true->o.ops=[])(u:6<=w.v.te)(r:OD w o [.int .i64 19]=some (.tup [],c,ol)):W57 w o []=some (.tup [],c,ol.map (·++[7])):=by
 refine A8 y ⟨Qa rfl,λh=>CH r h,λl h=>CG r h,λi m fr t x j ia n0=>?_⟩;have k:=Wt.start x j;unfold aQT;have g:=AN x.1;simp only[↓C2,G8,Hj,GY,simprocAttr,g,eq_true u,AE S57 144];refine Aq k r (λM c1 p=>?_);simp only[↓C2,G8,simprocAttr];exact c1.endc x.2.2
def aRe(w:Wb)(o:Oc)(te:Int)(h0:iL o)(ht:¬6<=w.v.te)(ja:o.vw.te=te)(z:0<=te∧te<=5):W57 w o []=some (.tup [],aHc o te,some ([11,28])):=by
 refine A8 (λ_=>h0.ops) ⟨Qa rfl,λh=>Xc,λl h=>XC,λi m fr t x j ia n0=>?_⟩;have k:=Wt.start x j;unfold aQT;have g:=AN x.1;have f:IntKind.i64.wrap (te+1)=te+1:=Hu O O;have r:=C7 5 0 [] U;have a:=sH (te+1);have hl:0<=Sy (te+1)∧Sy (te+1)<=1000:=by unfold Sy;split<;>omega
 have d:=aXj (s:=[0]) (c:=Sy (te+1)) ⟨hl.1,O,YD⟩;have e:=DY w {o with vw:={o.vw with te:=te+1}} 1 (Aw 5 [] 0) (Lib.repeatL [0] (Sy (te+1)).toNat) (λ_=>h0.ops) (by simp only[h0.ops];simp);have n:=I2 w (({o with vw:={o.vw with te:=te+1}}:Oc).op 1 (Aw 5 [] 0) (Lib.repeatL [0] (Sy (te+1)).toNat)) (λh=>Xc);have hc:=k.cellp (p:=26) (ys:=[.int .i64 (te+1)]) (o':={o with vw:={o.vw with te:=te+1}}) (Qa rfl) rfl rfl rfl;simp only[G7,↓C2,GY,simprocAttr,g,eq_false ht,f,Ae S57 211,r,Ae S57 85,a,Ae S57 84,d,AE S57 210,ja];refine CC hc e (λM u hu c1 c2=>?_);simp only[↓C2,H_,simprocAttr];refine As.intro ?_ ?_
 ·intro pp q l hl;simp only[Qr,Zp,or_false]at q;subst q;exact DR hl
 simp only[↓C2,G8,Hj,simprocAttr,AE S57 146];refine Aq c1 n (λM2 d1 b=>?_);simp only[↓C2,G8,simprocAttr];exact d1.endl (l:=[11,28]) U
def aDa:=y0 Tryz.f212 [] []
def aTm{P:Program}{f:FuncId}{A B:List D->Option D}(n:(Ac A).ok P f)(d:(Ac B).ok P f):(Ac λds=>(A ds).or (B ds)).ok P f:=by
 refine⟨n.1,λds m m' fr _=>rfl,?_⟩;intro a w0 w m g fr ds vs r u hi b hl y z;have h:(Ac A).ex ds m fr=some (r,u)∨(Ac B).ex ds m fr=some (r,u):=by
  simp only[Ac]at z ⊢;split at z
  ·rename_i s;simp only[s,if_true];cases ha:A (ds.map D.un)with
   |none=>rw[ha]at z;exact .inr z
   |some x=>rw[ha]at z;exact .inl z
  ·cases z
 rcases h with h|h
 ·obtain⟨_,_,i⟩:=n;exact i hi b hl y h
 ·obtain⟨_,_,i⟩:=d;exact i hi b hl y h
def growZ:HF where
 rd:=λ_ _=>[]
 ex:=λds _ _=>match ds with
  |[.slice true _ [],.int .i64 0]=>some (.slice true [] [],[])
  |_=>none
def aAe(w:World):Calls Qd 250 #[.slice none 0 0,.int .i64 0] w λe t=>e= .returned (.slice none 0 0)∧t=w:=by
 go_enter func250,ntmps250
 go_wp2
 all_goals go_ret
 all_goals exact Y5
def aYh:growZ.ok Qd 250:=by
 refine⟨⟨_,func250,Z,Z⟩,λds m m' fr _=>rfl,?_⟩;intro B w0 w m g fr ds vs r u hi b hl y z;simp only[growZ]at z;split at z
 ·simp only[Qv,QV]at z;obtain⟨rfl,rfl⟩:=z
  match vs,hl with
  |[v0,v1],_=>
   have k:=y 0 _ v0 rfl rfl;have ta:=(y 1 _ v1 rfl rfl).int_inv;subst ta;have p:v0= .slice none 0 0:=by
    rcases k.slice_inv with ⟨_,_,e⟩|⟨h,_⟩
    ·exact e
    ·cases h
   subst p;refine(aAe w).mono ?_;rintro ev s ⟨rfl,f⟩;subst f;have t:=Below.refl s.heap.size s;exact⟨_,g.over s s,rfl,hi.over t,Ht.over hi.gz t,.nils _,λi d _=>d⟩
 ·cases z
def aOh:=Ao [(250,growZ)]
def aFr:=RF aOh (Gu 9 68 3 32 250) [.t 2] 36
def aQe:Kq aFr 190:=Am aCH (Aa aYh Ad)
def aCw{m:G6}{fr:Id}:growZ.ex [.slice true [] [],.int .i64 0] m fr=some (.slice true [] [],[]):=rfl
def aFq{t:Id}:aFr [.slice false [] [.slice false [] [],.slice false [] []]]=some (.slice true [] []):=by
 refine Al (Qa rfl) ?_;have a:aOh 250=some growZ:=rfl;have w0:IntKind.i64.wrap 0=0:=rfl;have s:IntKind.i64.wrap 1=1:=rfl;have y:IntKind.i64.wrap 2=2:=rfl;have y0:((0:Nat):Int)=0:=rfl;have y1:((1:Nat):Int)=1:=rfl;have y2:((2:Nat):Int)=2:=rfl;have c:(0:Int)+1=1:=rfl;have m:(1:Int)+1=2:=rfl;unfold Gu;simp only[↓C2,G8,GY,simprocAttr,Qh,Qb];refine Af (L7.eq_1 _) ?_;simp only[↓C2,G_,GY,simprocAttr,y0,w0,s,c,QY,Qh,Qb];refine Af (L7.eq_1 _) ?_;simp only[↓C2,G_,GY,simprocAttr,y0,w0,y,m,ZG,Qh,Qb];refine Af (L7.eq_1 _) ?_;simp only[↓C2,G_,GY,simprocAttr,AG a,aCw,Qh,Qb];refine Af (L6.eq_1 _ _ _) ?_;simp only[↓C2,G_,GY,simprocAttr,s,c,QY,Qh,Qb];refine Af (L6.eq_1 _ _ _) ?_;simp only[↓C2,G_,GY,simprocAttr,y,m,ZG,Qh,Qb];refine Af (L6.eq_1 _ _ _) ?_;simp only[↓C2,G_,GY,simprocAttr]
 all_goals exact Y1
def OL(l:List Mt)(p:Bs):List Mt:=l.take (Cm l p).toNat++l.drop ((Cm l p).toNat+1)
def iG:List D->Option D:=λds=>(OH ds).or (aFr ds)
def aQf:Kq iG 190:=aTm (aUi aK4) aQe
def aGi{a b:List Mt}(h:a.length+b.length<=1000):iG [.slice false [] [.slice false [] (AA a),.slice false [] (AA b)]]=some (.slice (decide (a++b=[])) [] (AA (a++b))):=by
 by_cases c:a++b=[]
 ·obtain⟨rfl,rfl⟩:=List.append_eq_nil_iff.1 c;unfold iG;rw[show AA []=[]from rfl,aFq (t:=[])];rfl
 ·grind [OH,AA,Fh,AU,pK,iG]
def aIT:=Ao [(187,Ac aGl),(190,Ac iG)]
def yY:=RF aIT aDa [.cell (some 1) 4,.t 5] 25
def aVN:Kq yY 212:=Am (Ai func212) (Aa aBo (Aa aQf Ad))
def aJW(nl:Bool)(l:List Mt)(p:Bs)(hl:l.length<=1000)(d:Cm l p<0):yY [.agg [.slice nl [] (AA l)],.str p]=some (.tup [.agg [.slice nl [] (AA l)],.int .i64 14]):=by
 refine Al (Qa rfl) ?_;unfold aDa;have z:=Py (nl:=nl) (t:=[]) (l:=l) (p:=p) O;simp only[G7,↓C2,GY,simprocAttr,Ae aIT 187,z,eq_true d]
 all_goals exact Y0
def aEZ(nl:Bool)(l:List Mt)(p:Bs)(hl:l.length<=1000)(g:nl=true->l=[])(d:¬Cm l p<0)(hi:(Cm l p).toNat<l.length):yY [.agg [.slice nl [] (AA l)],.str p]=some (.tup [.agg [.slice (decide (OL l p=[])) [] (AA (OL l p))],.int .i64 0]):=by
 refine Al (Qa rfl) ?_;unfold aDa;have z:=Py (nl:=nl) (t:=[]) (l:=l) (p:=p) O;have w:nl=false:=by
  grind
 subst w;unfold OL;generalize Cm l p=q at *;have y:(0:Int)<=q:=O
 have n:((q.toNat:Nat):Int)=q:=QJ y;have f:IntKind.i64.wrap (q+1)=q+1:=Hu O O;have v:(q+1).toNat=q.toNat+1:=O
 have c:=aGi (a:=l.take q.toNat) (b:=l.drop (q.toNat+1)) YI;have hd:aD (AA l) 3=3:=Xy
 have u:q.toNat<=l.length:=O
 have m:q.toNat+1<=l.length:=O
 have i:(q<=(l.length:Int))=True:=eq_true O;have o:(q+1<=(l.length:Int))=True:=eq_true O;have j:(0:Int)<=q+1:=O
 have s:Zq q.toNat (AA l)=AA (l.take q.toNat):=(ZR ..).symm;have x:List.drop (q.toNat+1) (AA l)=AA (l.drop (q.toNat+1)):=(List.map_drop ..).symm;have e:Zq (l.length-(q.toNat+1)) (AA (l.drop (q.toNat+1)))=AA (l.drop (q.toNat+1)):=Qt (by rw[AU,List.length_drop];omega);simp only[G7,↓C2,GY,simprocAttr,Ae aIT 187,z,eq_false d,f,AU,y,v,hd,j,i,o,QZ,s,x,e,Qg,Ae aIT 190,c];refine As.intro (λp k=>by cases k) ?_;simp only[G7,↓C2,GY,simprocAttr]
 all_goals exact Y0
def Ii(a:Ak):(Hq a)[0]?=some (.int .u8 a.op):=rfl
def Ub(a:Ak):(Hq a)[2]?=some (.str a.pa):=rfl
def rL(a:Ak):(Hq a)[3]?=some (.str a.ot):=rfl
def aEq(a:Ak):(Hq a)[10]?=some (.str a.key):=rfl
def H9(v:Vw):(HN v)[0]?=some (.bool v.se):=rfl
def SV(v:Vw):(HN v)[2]?=some (.str v.key):=rfl
def nQ(v:Vw):(HN v)[3]?=some (.slice v.nlm [] (AA v.ms)):=rfl
def aA5{m:G6}{v:Vw}{a:Ak}:Ag ((m.put [0] 0 (HN v)).put [1] 0 (Hq a)) [0] 0 5=some (HN v):=by
 grind [AH,Ay,CF]
def bS{m:G6}{a:Ak}:Ag (m.put [1] 0 (Hq a)) [1] 0 11=some (Hq a):=Ay (AT a)
def aPp{m:G6}{x:List D}{n:Nat}:Ag (m.put [14] 0 x) [0] 0 n=Ag m [0] 0 n:=AH V
open Classical in
def aKz{nl:Bool}{l:List Mt}{p:Bs}(hl:l.length<=1000000):aGe [.agg [.slice nl [] (AA l)],.str p]=some (.tup (if Cm l p<0 then [MF ([],0,false),.int .i64 14]else [MF (Cw l (Cm l p).toNat),.int .i64 0])):=by
 have h:AA l=AA (DD (AA l))∧(AA l).length<=1000000:=XP
 show(if _ then _ else _)=_;rw[if_pos h,BO]
open Classical in
def aKy{v:Vw}{p:Bs}(hl:v.ms.length<=1000000):aGd [H4 v,.str p]=some (.bool (decide (Ct v.ms p≠-1))):=by
 have h:AA v.ms=AA (DD (AA v.ms))∧(AA v.ms).length<=1000000:=XP
 show(if _ then _ else _)=_;rw[if_pos h,BO]
def FO(v:Vw)(a:Ak):Bool:=decide (a.op<=8)||(((decide (a.op=17)&&decide (0<=Cm v.ms a.pa))||decide (Ct v.ms a.pa≠-1))&&(decide (a.op≠18)||decide (Ct v.ms a.ot≠-1)))
def F70:List D->Option D:=FX LV (λp=>R4 p.1) (λp=> .bool (FO p.1 p.2))
def aSc{v:Vw}{a:Ak}(h:R4 v):F70 [H4 v,Hv a]=some (.bool (FO v a)):=B5 (mk:=LV) (a:=(v,a)) P8 h
def aXY:Kq F70 209:=by
 obtain⟨S,hS,hl⟩:=Bp (Aa aK7 (Aa aT4 (Aa aT3 Ad)));have g:=hl 262 _ rfl;have i:=hl 265 _ rfl;have m:=hl 266 _ rfl;clear hl;refine Da hS (Ai func209:Fn Qd 209 44 aV8 [.t 4]) (λ_=>by simp[LV]) (λp y=>?_);obtain⟨v,a⟩:=p;simp only at y;have za:=y.ml;have f:aGf [.int .u8 a.op]=some (.bool (decide (a.op<=8))):=rfl;have b:=aKz (nl:=v.nlm) (l:=v.ms) (p:=a.pa) O;have k:∀q,aGd [.agg (HN v),.str q]=some (.bool (decide (Ct v.ms q≠-1))):=λq=>aKy O
 have d:=k a.pa;have j:=k a.ot;unfold aV8 LV H4 Hv FO;simp only;by_cases w:a.op<=8
 ·rw[decide_eq_true w]at f;simp only[↓C2,G_,simprocAttr,Ii,H9,Bx,CF,AO,AT,Ql,ne_eq,Zv,Ah,Qi,QL,Ql,and_self,Qo,Qp,w,Ab g,f]
 ·rw[decide_eq_false w]at f;generalize decide (Ct v.ms a.pa≠-1)=u at d ⊢;generalize decide (Ct v.ms a.ot≠-1)=z at j ⊢;generalize Cm v.ms a.pa=fi at b ⊢;clear k;by_cases x:a.op=17
  ·have h:(a.op=17)=True:=eq_true x;have c:(a.op=18)=False:=eq_false O;clear x;by_cases o:fi<0
   ·have n:¬0<=fi:=by omega
    rw[if_pos o]at b;cases u<;>simp only[↓C2,Hf,simprocAttr,Ii,Ub,rL,H9,SV,nQ,Mv,aPp,Ay,aA5,Is,It,Bx,CF,AO,AT,ne_eq,Zv,ZH,Zw,ZQ,Ah,Qm,QE,Qo,QA,Qp,w,n,h,c,Ab g,f,Ab i,b,Ab m,d,MF]
   ·have n:0<=fi:=by omega
    rw[if_neg o]at b;generalize Cw v.ms fi.toNat=mt at b;simp only[↓C2,Hf,simprocAttr,Ii,Ub,rL,H9,SV,nQ,Mv,Ay,Bx,CF,AO,AT,ne_eq,Zv,Zw,Ah,Qm,QE,Qo,QA,Qp,w,n,h,c,Ab g,f,Ab i,b,MF]
  ·have h:(a.op=17)=False:=eq_false x;obtain⟨mt,e,s⟩:∃(mt:Mt)(e:Int),aGe [.agg [.slice v.nlm [] (AA v.ms)],.str a.pa]=some (.tup [MF mt,.int .i64 e]):=by
    grind
   clear b;by_cases r:a.op=18
   ·have c:(a.op=18)=True:=eq_true r;clear r x;cases u<;>cases z<;>simp only[↓C2,Hf,simprocAttr,Ii,Ub,rL,H9,SV,nQ,Mv,aPp,Ay,aA5,Is,It,Bx,CF,AO,AT,ne_eq,ZB,ZH,Zw,ZQ,Ah,Qm,QE,Qo,QA,and_false,Qp,w,h,c,Ab g,f,Ab i,s,Ab m,d,j,MF]
   ·have c:(a.op=18)=False:=eq_false r;clear r x;cases u<;>simp only[↓C2,Hf,simprocAttr,Ii,Ub,rL,H9,SV,nQ,Mv,aPp,Ay,aA5,Is,It,Bx,CF,AO,AT,ne_eq,ZB,Zv,ZH,Zw,Ah,Qm,QE,Qo,QA,Qp,w,h,c,Ab g,f,Ab i,s,Ab m,d,MF]
def F8(v:Vw)(a:Ak):Int:=if BQ a≠0 then BQ a else if a.op=1 then 0 else if a.op=2 then(if v.se=false then 9 else if a.key≠v.key then 11 else 0)else if v.se=true then 12 else if IC v a=false then 13 else if FO v a=false then 14 else 0
def zW:List D->Option D:=FX LV (λp=>R4 p.1∧HH p.2) (λp=> .int .i64 (F8 p.1 p.2))
def I8{v:Vw}{a:Ak}(h:R4 v)(f:HH a):zW [H4 v,Hv a]=some (.int .i64 (F8 v a)):=B5 (mk:=LV) (a:=(v,a)) P8 ⟨h,f⟩
def aX6:Kq zW 143:=by
 obtain⟨S,hS,hl⟩:=Bp (Aa aX0 (Aa aXZ (Aa aXY Ad)));have c:=hl 207 _ rfl;have i:=hl 208 _ rfl;have j:=hl 209 _ rfl;clear hl;refine Da hS (Ai func143:Fn Qd 143 52 aWo [.t 4]) (λ_=>by simp[LV]) (λp w=>?_);obtain⟨v,a⟩:=p;obtain⟨r,x⟩:=w;simp only at r x;have b:F68 [.agg (Hq a)]=some (.int .i64 (BQ a)):=aSe x;have d:F69 [.agg (HN v),.agg (Hq a)]=some (.bool (IC v a)):=aSd r;have h:F70 [.agg (HN v),.agg (Hq a)]=some (.bool (FO v a)):=aSc r;unfold aWo LV H4 Hv F8;simp only;generalize BQ a=e at b ⊢;generalize IC v a=b1 at d ⊢;generalize FO v a=m at h ⊢;by_cases s:e=0
 ·subst s;by_cases u:a.op=1
  ·have z:(a.op=1)=True:=eq_true u;clear u;simp only[↓C2,G_,simprocAttr,Ii,H9,bS,Bx,CF,BR,BS,AO,AT,Ql,ne_eq,Ah,Qi,QL,Ql,and_self,Qo,Qp,z,Ab c,b]
  ·have z:(a.op=1)=False:=eq_false u;by_cases y:a.op=2
   ·have k:(a.op=2)=True:=eq_true y;clear u y;cases hse:v.se with
    |false=>
     simp only[↓C2,G_,simprocAttr,Ii,H9,bS,Bx,CF,BR,BS,AO,AT,Ql,ne_eq,Ah,Qi,QL,Ql,and_self,Qo,QA,Qp,z,k,hse,Ab c,b]
    |true=>
     by_cases o:a.key=v.key
     ·have f:(a.key=v.key)=True:=eq_true o;have g:(a.key==v.key)=true:=by rw[o];simp
      clear o;simp only[↓C2,G_,simprocAttr,Ii,Ub,aEq,H9,SV,bS,Bx,CF,BR,BS,AO,AT,Ql,ne_eq,Ah,Qi,QL,Ql,and_self,Qo,QA,and_false,Qp,z,k,hse,f,Ab c,b]
     ·have f:(a.key=v.key)=False:=eq_false o;have g:(a.key==v.key)=false:=by simpa using o
      clear o;simp only[↓C2,G_,simprocAttr,Ii,Ub,aEq,H9,SV,bS,Bx,CF,BR,BS,AO,AT,Ql,ne_eq,Ah,Qi,QL,Ql,and_self,Qo,QA,and_false,Qp,z,k,hse,f,Ab c,b]
   ·have k:(a.op=2)=False:=eq_false y;clear u y;cases hse:v.se with
    |true=>
     simp only[↓C2,G_,simprocAttr,Ii,H9,bS,Bx,CF,BR,BS,AO,AT,Ql,ne_eq,Ah,Qi,QL,Ql,and_self,Qo,QA,Qp,z,k,hse,Ab c,b]
    |false=>
     cases b1 with
     |false=>
      simp only[↓C2,G_,simprocAttr,Ii,H9,bS,aA5,Is,It,Bx,CF,BR,BS,AO,AT,Ql,ne_eq,Ah,Qi,QL,Ql,and_self,Qo,QA,Qp,z,k,hse,Ab c,b,Ab i,d]
     |true=>
      cases m<;>simp only[↓C2,G_,simprocAttr,Ii,H9,bS,aA5,Is,It,Bx,CF,BR,BS,AO,AT,Ql,ne_eq,Ah,Qi,QL,Ql,and_self,Qo,QA,Qp,z,k,hse,Ab c,b,Ab i,d,Ab j,h]
 ·simp only[↓C2,G_,simprocAttr,bS,Bx,BR,BS,AO,Ql,ne_eq,Ql,and_self,s,Ab c,b]
def aH6(k:Bs)(nl:Bool):Vw:=⟨false,1,k,true,[],nl,[CJ]⟩
def F23:List D->Option D
 |[.str k]=>some (H4 (aH6 k false))
 |_=>none
def aX7:Kq F23 78:=by
 obtain⟨S,g,hl⟩:=Bp (Aa aTr Ad);have a:=hl 80 _ rfl;clear hl;refine AM (S:=S) g (Ai func78:Fn Qd 78 6 aWp [.cell (some 5) 2]) (λds r h=>?_) (λds r h=>?_)
 ·unfold F23 at h;split at h
  ·simp
  ·cases h
 ·unfold F23 at h;split at h
  ·simp only[Qv]at h;subst h;have f:F48 []=some (.agg [.slice false [] (AL [CJ])]):=rfl;unfold aWp;simp only[↓C2,Hf,simprocAttr,Cn,Fz,QH,QW,Za,Ab a,f,Ah,Au,Av,Qm,Zr,Zi,Q4,QE,QZ,List.drop_succ_cons,Bu,AW]
   all_goals exact Y1
  ·cases h
def aEu(s:Bool×List Mt)(m:Mt):Bool×List Mt:=match (aEv s.2 m).1 with
 |none=>s
 |some l=>(false,l)
open Classical in
def aSf{nl0 nl:Bool}{l:List Tk}{n p:Bs}{rs:List Rl}(hl:l.length<=90000)(o:∀k∈l,Mx k.2.2.2)(g:nl=true->rs=[])(i:Mx rs)(u:n.length<=1000000)(f:p.length<=1000000):
  F50 [.agg [.slice nl0 [] (AL l)],.agg [.str n,.str p,.slice nl [] (Ar rs)]]=some (.tup [WT nl0 l (IH l (n,p,nl,rs)).1,.int .i64 (IH l (n,p,nl,rs)).2]):=by
 have h:(Fu (AL l)∧(AL l).length<=90000∧∀k∈DA (AL l),Mx k.2.2.2)∧Oh nl (Ar rs)∧Mx (Br (Ar rs))∧n.length<=1000000∧p.length<=1000000:=
  ⟨⟨E4 O,by rw[B9];exact hl,by rw[BN];exact o⟩,Mr i.1 g,by rw[A2];exact i,u,f⟩
 show(if _ then _ else _)=_;rw[if_pos h,BN,A2]
def z5:List D:=[.bool false,.int .i64 0,.str [],.slice true [] [],.slice true [] []]
open Classical in
def aKF{nl:Bool}{l:List Tk}(hl:l.length<=1000000):nO [.agg [.slice nl [] (AL l)]]=some (.slice (decide (l.length=0)) [] (l.map λk=> .str k.1)):=by
 have h:Fu (AL l):=E4 hl;show(if _ then _ else _)=_;rw[if_pos h,BN]
theorem bl_irr:∀a:Bs,Op.bytesLess a a=false
 |[]=>rfl
 |x::r=>by simp[Op.bytesLess,bl_irr r]
def N3:∀{a b:Bs},a≠b->Op.bytesLess a b=!Op.bytesLess b a
 |[],[],h=>absurd rfl h
 |[],y::s,_=>rfl
 |x::r,[],_=>rfl
 |x::r,y::s,h=>by
  simp only[Op.bytesLess];by_cases c:x=y
  ·simp_all [N3]
  ·grind
def RZ:∀{a b c:Bs},Op.bytesLess a b=true->Op.bytesLess b c=true->Op.bytesLess a c=true
 |a,b,[],h1,h2=>by simp[Op.bytesLess]at h2
 |a,[],z::t,h1,h2=>by cases a<;>simp[Op.bytesLess]at h1
 |[],y::s,z::t,h1,h2=>rfl
 |x::r,y::s,z::t,h1,h2=>by
  simp only[Op.bytesLess,Zy,QB,decide_eq_true_eq,beq_iff_eq]at h1 h2 ⊢;rcases h1 with h1|⟨rfl,h1⟩
  ·grind
  ·rcases h2 with h2|⟨rfl,h2⟩
   ·left;exact h2
   ·right;exact⟨rfl,RZ h1 h2⟩
def GC(l:List Mt):Prop:=∀i j,i<j->j<l.length->Op.bytesLess (l.getD i m0t).1 (l.getD j m0t).1=true
def Pt{a b:Bs}:decide (C6 a b<0)=Op.bytesLess a b:=by
 grind [C6]
def aCe{l:List Mt}{m:Mt}(g:∀i,i<l.length->(l.getD i m0t).1≠m.1):∀j,j<=l.length->kR kG m0t l m j=kT l m.1 j
 |0,_=>rfl
 |j+1,hj=>by
  have ih:=aCe g j O;have q:=N3 (g j O);have u:kG m (l.getD j m0t)=Op.bytesLess m.1 (l.getD j m0t).1:=Pt;unfold kR kT;rw[u,show Cw l j=l.getD j m0t from rfl,q];cases Op.bytesLess m.1 (l.getD j m0t).1
  ·simp
  ·simpa using ih
theorem TR{l:List Mt}{p:Bs}(h:¬0<=Cm l p):∀i,i<l.length->(l.getD i m0t).1≠p:=by
 have u:=GQ (l.map λm=>decide (m.1=p));have f:decide (0<=Bm (l.map λm=>decide (m.1=p)))=false:=decide_eq_false h;rw[f]at u;intro i hi e;have x:=Zn.1 u.symm (decide ((l.getD i m0t).1=p)) (Qw.2 ⟨l[i],QM hi,by simp[QC,hi]⟩);exact x (decide_eq_true e)
theorem Uc{l:List Mt}{m:Mt}(h:GC l):Io l m=aEv l m:=by
 unfold Io aEv;split
 ·rfl
 split
 ·rfl
 rename_i d;split
 ·rfl
 split
 ·rfl
 have j:∀i,i+1<l.length->kG (l.getD (i+1) m0t) (l.getD i m0t)=false:=λi hi=>by
  have u:=h i (i+1) O hi;unfold kG;rw[Pt];have q:(l.getD (i+1) m0t).1≠(l.getD i m0t).1:=λe=>by rw[e,bl_irr]at u;cases u
  rw[N3 q,u];rfl
 have hi:=TI kG m0t l m j l.length 1 (Qg _) O;rw[hi,aCe (TR d) l.length (Qg _)];split
 ·simp_all
 ·rfl
def aCf{l:List Mt}{p:Bs}:∀j,kT l p j=0∨Op.bytesLess (l.getD (kT l p j-1) m0t).1 p=true
 |0=> .inl rfl
 |j+1=>by
  unfold kT;split
  ·rename_i h;right;exact h
  ·exact aCf j
def pV{l:List Mt}{p:Bs}:∀j i,kT l p j<=i->i<j->Op.bytesLess (l.getD i m0t).1 p=false
 |0,i,_,h=>O
 |j+1,i,h1,h2=>by
  unfold kT at h1;split at h1
  ·omega
  ·rename_i h;by_cases e:i=j
   ·subst e;exact Bool.eq_false_iff.2 h
   ·exact pV j i h1 O
def Rd{α:Type}{l:List α}{m d:α}{k i:Nat}(o:k<=l.length):(l.take k++m::l.drop k).getD i d=if i<k then l.getD i d else if i=k then m else l.getD (i-1) d:=by
 grind
theorem aAy{l:List Mt}{m:Mt}(h:GC l)(g:∀i,i<l.length->(l.getD i m0t).1≠m.1):GC (l.take (kT l m.1 l.length)++m::l.drop (kT l m.1 l.length)):=by
 have o:=aCd l m.1 l.length;have h1:=aCf (l:=l) (p:=m.1) l.length;have f:=pV (l:=l) (p:=m.1) l.length;generalize kT l m.1 l.length=k at o h1 f;have lo:∀i,i<k->Op.bytesLess (l.getD i m0t).1 m.1=true:=λi hi=>by
  rcases h1 with h1|h1
  ·omega
  ·by_cases e:i=k-1
   ·rw[e];exact h1
   ·exact RZ (h i (k-1) O O) h1
 have hi:∀i,k<=i->i<l.length->Op.bytesLess m.1 (l.getD i m0t).1=true:=λi x t=>by
  rw[N3 (λe=>g i t e.symm),f i x t];rfl
 intro i j z d;have r:(l.take k++m::l.drop k).length=l.length+1:=by
  grind
 rw[r]at d;rw[Rd o,Rd o];by_cases a1:i<k
 ·rw[if_pos a1];by_cases w:j<k
  ·rw[if_pos w];exact h i j z O
  ·rw[if_neg w];by_cases b:j=k
   ·simp_all
   ·rw[if_neg b];exact h i (j-1) O O
 ·rw[if_neg a1];have w:¬j<k:=by omega
  have b:¬j=k:=O
  rw[if_neg w,if_neg b];by_cases s:i=k
  ·grind
  ·rw[if_neg s];exact h (i-1) (j-1) O O
def mU{s:Bool×List Mt}{m:Mt}(h:GC s.2):GC (aEu s m).2:=by
 unfold aEu aEv;by_cases u:EE m.1 m.2.1≠0
 ·rw[if_pos u];exact h
 ·rw[if_neg u];by_cases f:0<=Cm s.2 m.1
  ·rw[if_pos f];exact h
  ·grind [MB,aAy,TR]
def GB(l:List Tk):Prop:=∀i j,i<j->j<l.length->Op.bytesLess (Bo l i).1 (Bo l j).1=true
def AtT(l:List Tk)(s:Bs)(r:Nat):Prop:=r<=l.length∧(∀i,i<r->Op.bytesLess (Bo l i).1 s=true)∧∀i,r<=i->i<l.length->Op.bytesLess (Bo l i).1 s=false
def AtT.uniq{l:List Tk}{s:Bs}{r q:Nat}(h:AtT l s r)(k:AtT l s q):r=q:=by
 rcases ZI r q with e|e|e
 ·have u:=h.2.2 r (Qg _) (by have:=k.1;omega);rw[k.2.1 r e]at u;cases u
 ·exact e
 ·have u:=k.2.2 q (Qg _) (by have:=h.1;omega);rw[h.2.1 q e]at u;cases u
theorem TC{l:List Tk}(h:GB l){s:Bs}{i j:Nat}(z:i<=j)(d:j<l.length)(hl:Op.bytesLess (Bo l j).1 s=true):Op.bytesLess (Bo l i).1 s=true:=by
 by_cases e:i=j
 ·rw[e];exact hl
 ·exact RZ (h i j O d) hl
def mK{l:List Tk}(h:GB l){s:Bs}:∀(f lo hi:Nat),hi-lo<=f->lo<=hi->hi<=l.length->(∀i,i<lo->Op.bytesLess (Bo l i).1 s=true)->(∀i,hi<=i->i<l.length->Op.bytesLess (Bo l i).1 s=false)->AtT l s (bsR l s f lo hi)
 |0,lo,hi,hf,h1,h2,h3,h4=>by
  have:lo=hi:=O
  subst this;exact⟨h2,h3,h4⟩
 |f+1,lo,hi,hf,h1,h2,h3,h4=>by
  unfold bsR;split
  ·rename_i u;have j:(lo+hi) / 2<hi:=by omega
   have p:lo<=(lo+hi) / 2:=O
   split
   ·rename_i w;have n:Op.bytesLess (Bo l ((lo+hi) / 2)).1 s=true:=by rw[←Pt];exact decide_eq_true w
    exact mK h f _ hi O O h2 (λi v=>TC h (show i<=(lo+hi) / 2 by omega) O n) h4
   ·rename_i w;have n:Op.bytesLess (Bo l ((lo+hi) / 2)).1 s=false:=by rw[←Pt];exact decide_eq_false w
    refine mK h f lo _ O p O h3 (λi m r=>?_);by_cases e:Op.bytesLess (Bo l i).1 s=true
    ·grind [TC]
    ·simpa using e
  ·have:lo=hi:=by omega
   subst this;exact⟨h2,h3,h4⟩
def aEb{l:List Tk}(h:GB l)(s:Bs):AtT l s (Ir l s):=mK h l.length 0 l.length O O (Qg _) (λi hi=>absurd hi (ZN _)) (λi u f=>O)
theorem N_{a b:Bs}:decide (C6 a b=0)=decide (a=b):=by
 grind [C6,bl_irr]
def eD{l:List Tk}(h:GB l){j:Nat}(d:j<l.length):Ir l (Bo l j).1=j∧A0 l (Bo l j).1=true:=by
 have e:Ir l (Bo l j).1=j:=(aEb h _).uniq ⟨O,λi hi=>h i j hi d,λi u f=>by
  by_cases e:i=j
  ·rw[e];exact bl_irr _
  ·have x:=h j i O f;have q:(Bo l i).1≠(Bo l j).1:=λe=>by rw[e,bl_irr]at x;cases x
   rw[N3 q,x];rfl⟩
 refine⟨e,?_⟩;unfold A0;rw[e,N_];simp[d]
def iZ(k:Tk):Bs×Bs×List Rl:=(k.1,k.2.1,k.2.2.2)
def LJ(L M:List Tk):Prop:=L.map iZ=M.map iZ
def LJ.len{L M:List Tk}(h:LJ L M):L.length=M.length:=YR
def LJ.at{L M:List Tk}(h:LJ L M)(j:Nat):(Bo L j).1=(Bo M j).1∧(Bo L j).2.1=(Bo M j).2.1∧(Bo L j).2.2.2=(Bo M j).2.2.2:=by
 have u:(L.map iZ)[j]?=(M.map iZ)[j]?:=by rw[h]
 rw[Zb,Zb]at u;unfold Bo;simp only[QC];cases hL:L[j]?<;>cases hM:M[j]?<;>rw[hL,hM]at u<;>simp[iZ]at u<;>simp[u]
def LJ.sort{L M:List Tk}(h:LJ L M)(k:GB L):GB M:=λi j z d=>by
 rw[←(h.at i).1,←(h.at j).1];exact k i j z (by rw[h.len];exact d)
def LJ.mid{L M:List Tk}(h:LJ L M){k p:Tk}(o:iZ k=iZ p)(j:Nat):LJ (L.take j++k::L.drop j) (M.take j++p::M.drop j):=by
 simp_all [LJ]
def uF{l:List Tk}{k:Tk}(h:GB l)(o:A0 l k.1=false):GB (Fq l k):=by
 have x:=aEb h k.1;have p:∀i,i<l.length->(Bo l i).1≠k.1:=λi hi e=>by
  have:=(eD h hi).2;rw[e,o]at this;cases this
 unfold Fq;generalize Ir l k.1=q at x;obtain⟨y,lo,hi⟩:=x;have v:∀i,q<=i->i<l.length->Op.bytesLess k.1 (Bo l i).1=true:=λi u f=>by
  rw[N3 (λe=>p i f e.symm),hi i u f];rfl
 intro i j z d;have r:(l.take q++k::l.drop q).length=l.length+1:=by
  grind
 rw[r]at d;have n:∀i,Bo (l.take q++k::l.drop q) i=if i<q then Bo l i else if i=q then k else Bo l (i-1):=λi=>Rd y
 rw[n,n];by_cases a1:i<q
 ·rw[if_pos a1];by_cases w:j<q
  ·rw[if_pos w];exact h i j z O
  ·rw[if_neg w];by_cases m:j=q
   ·simp_all
   ·rw[if_neg m];exact h i (j-1) O O
 ·rw[if_neg a1];have w:¬j<q:=by omega
  have m:¬j=q:=O
  rw[if_neg w,if_neg m];by_cases s:i=q
  ·grind
  ·rw[if_neg s];exact h (i-1) (j-1) O O
def Sl(l:List Mt):Prop:=l.length<=1000∧∀m∈l,m.1.length<=1000
def aHb(s:Bs):Bs:=iJ 2 s.length++s
def mtB(m:Mt):Bs:=aHb m.1++[UInt8.ofNat (m.2.1 % 256).toNat,if m.2.2 then 1 else 0]
def F_(l:List Mt):Bs:=l.flatMap mtB
def PT(s:Bs):(aHb s).length=2+s.length:=by simp[aHb,beB_len]
def pL(m:Mt):(mtB m).length=4+m.1.length:=by simp[mtB,PT];omega
def S0{l:List Mt}{j:Nat}(h:j<l.length):F_ (l.take (j+1))=F_ (l.take j)++mtB (Cw l j):=by
 have e:Cw l j=l[j]:=by simp[Cw,Qf h]
 rw[e,F_,F_,←List.take_append_getElem h,List.flatMap_append];simp
def cK{l:List Mt}{j:Nat}(h:j<l.length):Cw l j∈l:=by simp[Cw,Qf h]
def oB{l:List Mt}(h:Sl l):∀j,j<=l.length->(F_ (l.take j)).length<=1004*j
 |0,_=>by simp[F_]
 |j+1,hj=>by
  have u:=oB h j O;have f:=h.2 _ (cK (show j<l.length by omega));rw[S0 O,Qj,pL];omega
def Pp:=y1 f86 3 [] []
def aNP:=y0 f86 [] [(3,Pp)]
def aM3:=y0 f142 [] []
def O9:=y1 f201 2 [] []
def aMl:=y0 f201 [] [(2,O9)]
def SR:List D->Option (List D×List Nat)
 |[.int .i64 s,.int .u64 n]=>if 1<=s∧s<=8∧0<=n then some (Az (iJ s.toNat n),[13*s.toNat])else none
 |_=>none
set_option maxHeartbeats 1000000 in
def aHK{S:GZ}{fr:Id}{m0:G6}{nl0:Bool}{t0:Id}{emp:Bool}{n:Int}{sz:Nat}{Q:Ex->St->Prop}(ja:sz<=8)(ia:0<=n)(j:∀i o,fr<:+i->m0 i o=none)(sa:BY m0 5 nl0 t0 emp=true):
  ∀(k:Nat)(y:St)(nl:Bool)(t:Id)(xs:List D) g,k<=sz->xs.length+k<=200000000->(nl=true->xs=[])->y.c=5+13*(sz-k)->Gs 5 fr m0 nl0 t0 y.m y.c nl t->
   y.s 7= .int .i64 (8*(k:Int)-8)->y.s 0= .slice nl t xs->y.s 2= .int .u64 n->
   (∀x nl' e,x.s 0= .slice nl' e (xs++Az (iJ k n))->(k=0->nl'=nl∧e=t∧x.m=y.m∧y.c<=x.c)->(0<k->nl'=false∧e=[13*sz]++fr∧Gd 5 fr m0 nl0 t0 x.m x.c e)->Q (.exit 0) x)->Ba S fr O9 Q y g:=by
 intro k;induction k with
 |zero=>
  intro y nl t xs g _ _ _ _ u h7 h0 f q;refine Af O9.eq_1 ?_;have hn:((0:Int)<=8*((0:Nat):Int)-8)=False:=eq_false V;simp only[↓C2,G8,Hj,simprocAttr,h7,hn];exact q _ nl t (by simp only[↓C2,reduceIte,Qc,h0,iJ,Az,Za,Zg]) (λ_=>⟨rfl,rfl,rfl,Xa⟩) (λh=>absurd h O)
 |succ k ih=>
  intro y nl t xs g hk r ma w u h7 h0 f q;refine Af O9.eq_1 ?_;have hn:((0:Int)<=8*((k+1:Nat):Int)-8)=True:=eq_true O;have z:((0:Int)<=8*((k+1:Nat):Int)-8):=O
  have v:min (8*((k+1:Nat):Int)-8).toNat IntKind.u64.bits=8*k:=by
   have:IntKind.u64.bits=64:=rfl;omega
  have hw:IntKind.i64.wrap (8*((k+1:Nat):Int)-8-8)=8*(k:Int)-8:=X_
  simp only[↓C2,G_,simprocAttr,Qb,Qh,h7,h0,f,hn,v,Uw,and_false];refine As.intro ⟨O,rfl,Gs.grow (u.put (l:=[]) (k:=y.c+2+5) O) j sa⟩ ?_;rw[B0 ma];simp only[↓C2,G_,simprocAttr,h7,hw];have p:Gd 5 fr m0 nl0 t0 (Ha.app (y.m.put ((y.c+2+5)::fr) 0 [D.tok 6]) (Be 5 ((y.c+2+6)::fr) (.slice nl t xs))) (y.c+2+8+3) ((y.c+2+6)::fr):=
   Gs.app (l:=[]) (u.put (l:=[]) (k:=y.c+2+5) O) O O
  refine ih _ false ((y.c+2+6)::fr) (xs++[.int .u8 ((((n.fdiv (2 ^ (8*k))) % 256).toNat:Nat):Int)]) _ O Xb U Xa p.gs rfl rfl f (λx nl' e e1 e2 e3=>?_);refine q x nl' e ?_ (λh=>absurd h O) (λ_=>?_)
  ·rw[e1,Q3];simp only[iJ,Az,QW];rw[Iv O];rfl
  ·by_cases qa:k=0
   ·obtain⟨a,b,c,d⟩:=e2 qa;refine⟨a,?_,?_⟩
    ·grind
    ·rw[b,c];exact p.more d
   ·exact e3 O
def aKY:(gQ 5 SR).ok Qd 201:=by
 refine Ll (S:=λ_=>none) A6 (Ai func201:Fn Qd 201 23 aMl [.t 6]) aQH (λds m fr d u h v=>?_);obtain⟨nl,t,xs,r,ys,l,rfl,f,q,z,rfl,rfl⟩:=aQI h;unfold SR at z;split at z
 ·rename_i s n;split at z
  ·rename_i w;obtain⟨o,b,a⟩:=w;simp only[Qv,QV]at z;obtain⟨rfl,rfl⟩:=z;refine⟨U,?_⟩;clear h;have j:((s.toNat:Nat):Int)=s:=QJ O;have w1:IntKind.i64.wrap (s-1)=s-1:=IntWalk.i64_in _ ⟨O,O⟩;have x:IntKind.i64.wrap (8*(s-1))=8*(s.toNat:Int)-8:=by rw[IntWalk.i64_in _ ⟨O,O⟩];omega
   unfold aMl;simp only[↓C2,G8,simprocAttr,w1,x];refine aHK (sz:=s.toNat) O a v f s.toNat _ nl t xs _ O O (λh=>?_) Xa Gs.start rfl rfl rfl (λy nl' e g _ c=>?_)
   ·grind [BY]
   ·obtain⟨rfl,rfl,p⟩:=c O;simp only[↓C2,G8,Hj,simprocAttr,g];exact p.fin v f
  ·cases z
 ·cases z
def aKn:List D->Option (List D×List Nat)
 |[.str s]=>if s.length<=65535 then some (Az (iJ 2 s.length++s),[17])else none
 |_=>none
set_option maxHeartbeats 1000000 in
def aTP(c:grownQ.ok Qd 206):(cQ 5 aG9 aKn).ok Qd 142:=by
 have g:GZ.ok Qd (Ao [(206,grownQ),(201,gQ 5 SR)]):=Aa c (Aa (aKY) Ad);have a:Ao [(206,grownQ),(201,gQ 5 SR)] 206=some grownQ:=rfl;have b:Ao [(206,grownQ),(201,gQ 5 SR)] 201=some (gQ 5 SR):=rfl;generalize Ao [(206,grownQ),(201,gQ 5 SR)]=S at g a b;refine Ll (S:=S) g (Ai func142:Fn Qd 142 22 aM3 [.t 4,.t 5]) (λds m m' fr _=>rfl) (λds m fr d u h v=>?_);obtain⟨nl,t,xs,r,ys,l,rfl,x,q,j,rfl,rfl⟩:=aQ5 h;unfold aKn at j;split at j
 ·rename_i s;split at j
  ·rename_i w;simp only[Qv,QV]at j;obtain⟨rfl,rfl⟩:=j;refine⟨U,?_⟩;clear h;have g1:((65535:Int)<(s.length:Int))=False:=eq_false O;have n:IntKind.i64.wrap (2+(s.length:Int))=2+(s.length:Int):=IntWalk.i64_in _ ⟨O,O⟩;have y:IntKind.u64.wrap (s.length:Int)=(s.length:Int):=SX O O;have e:SR [.int .i64 2,.int .u64 (s.length:Int)]=some (Az (iJ 2 s.length),[26]):=by
    show(if(1:Int)<=2∧(2:Int)<=8∧0<=(s.length:Int)then some (Az (iJ (2:Int).toNat (s.length:Int)),[13*(2:Int).toNat])else none)=_;rw[if_pos ⟨O,O,O⟩];rfl
   have f:∀m fr,grownQ.ex [.slice nl t xs,.int .i64 (2+(s.length:Int))] m fr=some (.slice false (0::fr) xs,[(0::fr,0,[.tok 6])]):=λm fr=>aCv O x O
   unfold aM3;simp only[↓C2,G8,Hj,simprocAttr,AG a,AG b,f,g1,n,y];have z:Gd 5 fr m true [] (m.put ([0]++9::fr) 0 [.tok 6]) 10 ([0]++9::fr):=
    ⟨⟨[0],9,rfl,O⟩,Yr,λi o hi=>U_ i o hi⟩
   refine aLE (.inr ⟨z.tok,U⟩) U q e ?_;have p:Gd 5 fr m true [] (Ha.app (m.put (0::9::fr) 0 [.tok 6]) (Be 5 ([26]++13::fr) (.slice false (0::9::fr) xs))) 14 ([26]++13::fr):=
    Gs.app (l:=[26]) (k:=13) z.gs O O
   simp only[↓C2,G8,simprocAttr,false_and,B_];refine As.intro ⟨by simp only[Qj,B_,beB_len];omega,?_,.inr ⟨p.tok,U⟩⟩ ?_
   ·cases s<;>rfl
   simp only[↓C2,G8,simprocAttr];refine⟨by rw[Ed,Q3];rfl,?_⟩;exact(Gs.app (c':=18) (l:=[]) (k:=17) p.gs O O).finc v
  ·cases j
 ·cases j
set_option maxRecDepth 20000 in
def aGA(w:World)(r:Option Addr)(n c k:Nat)(cs:List Value)(hl:cs.length=n)(q:∀v∈cs,v.oneCell'=true)(o:n+k<=140737488355328)
  (b:0<n->∃ad,r=some ad∧∀(j:Nat) v,cs[j]?=some v->w.cell? (ad.add j)=some v):
  Calls Qd 206 #[.slice r n c,.int .i64 (k:Int)] w λe t=>e= .returned (.slice (some ⟨w.heap.size,0,none⟩) n (n+k))∧t=(w.alloc (.cells (madeCells #[.int .u8 0] (n+k)) 5)).setRow w.heap.size (cs++(madeCells #[.int .u8 0] (n+k)).toList.drop n).toArray:=by
 have f:IntKind.i64.wrap ((n:Int)+(k:Int))=(n:Int)+(k:Int):=IntWalk.i64_in _ ⟨O,O⟩;have p:∀u:World,(Instr.makeSlice 108 (.int .i64 (n:Int)) (.int .i64 ((n:Int)+(k:Int)))).run Qd u= .ok (.slice (some ⟨u.heap.size,0,none⟩) n (n+k)) (u.alloc (.cells (madeCells #[.int .u8 0] (n+k)) 5)):=λu=>by
  have g:((n:Int)+(k:Int)).toNat=n+k:=O
  have:=run_make (P:=Qd) u 108 5 Tryz.t5 (.int .u8 0) underlying108 Z Z .i64 .i64 (n:Int) ((n:Int)+(k:Int)) O O (by show((1:Nat):Int)*_<=_;omega) O;simpa[show Tryz.t5.size=1 from rfl,Value.cells,g]using this
 have i:(Builtin.copy_ #[108,108] 3 #[.slice (some ⟨w.heap.size,0,none⟩) n (n+k),.slice r n c]).run Qd (w.alloc (.cells (madeCells #[.int .u8 0] (n+k)) 5))= .ok (goInt n) ((w.alloc (.cells (madeCells #[.int .u8 0] (n+k)) 5)).setRow w.heap.size (cs++(madeCells #[.int .u8 0] (n+k)).toList.drop n).toArray):=by
  have a:(w.alloc (.cells (madeCells #[.int .u8 0] (n+k)) 5)).heap[w.heap.size]?=some (.cells (madeCells #[.int .u8 0] (n+k)) 5 (0,0)):=heap_alloc_new w _;rcases Nat.eq_zero_or_pos n with h0|h0
  ·have x:cs=[]:=Ze O;subst x;have:=run_copy_none (P:=Qd) (w.alloc (.cells (madeCells #[.int .u8 0] (n+k)) 5)) 108 108 3 5 (some ⟨w.heap.size,0,none⟩) r n (n+k) n c underlying108 Z (by rw[h0];rfl);rw[this,h0];simp only[QH,QZ,Array.toArray_toList];rw[setRow_self _ _ _ 5 (0,0) (by rw[h0]at a;exact a)];rfl
  ·obtain⟨ad,rfl,z⟩:=b h0;have:=run_copy_row (P:=Qd) (w.alloc (.cells (madeCells #[.int .u8 0] (n+k)) 5)) 108 108 3 5 w.heap.size 0 n (n+k) ad n c (madeCells #[.int .u8 0] (n+k)) 5 cs underlying108 Z a (by rw[hl];simp) (λj v y=>by rw[World.cell?_alloc_old _ _ _ (Nat.ne_of_lt (World.block_lt_of_cell? _ _ (z j v y)))];exact z j v y) (by simp[madeCells];omega) q;rw[this,hl];simp[]
 go_enter func206,ntmps206
 go_wp2
 go_ret
 exact Y4
def V0(w:World)(a b:Array Value)(e:TypeId):(w.alloc (.cells a e)).setRow w.heap.size b=w.alloc (.cells b e):=by
 have h:∀(F:Obj->Obj),(w.heap.push (.cells a e)).modify w.heap.size F=w.heap.push (F (.cells a e)):=by
  grind
 unfold World.setRow World.alloc;simp only[h]
def aTA:grownQ.ok Qd 206:=by
 refine⟨⟨Tryz.f206,func206,rfl,Z⟩,λds m m' fr _=>rfl,?_⟩;intro B w0 w m g fr ds vs r u hi b hl da y;simp only[grownQ]at y;split at y
 ·rename_i nl t xs k;split at y
  ·rename_i s;obtain⟨qa,ia,hk⟩:=s;simp only[Qv,QV]at y;obtain⟨rfl,rfl⟩:=y
   match vs,hl with
   |[v0,v1],_=>
    have sa:=da 0 _ v0 rfl rfl;have ta:=(da 1 _ v1 rfl rfl).int_inv;subst ta;have p:∀d∈xs,d.cells.length=1∧d.calm=true:=by
     intro d hd;have:=Zd.1 ia d hd;unfold GN at this;split at this
     ·exact Y4
     ·cases this
    obtain⟨sp,c,cs,e0,oa,ra,wa⟩:∃(sp:Option Addr)(c:Nat)(cs:List Value),v0= .slice sp xs.length c∧cs.length=xs.length∧AZ w g (flat xs) cs∧
      (0<xs.length->∃ad,sp=some ad∧∀(j:Nat) v,cs[j]?=some v->w.cell? (ad.add j)=some v):=by
     cases nl with
     |true=>
      rcases sa.slice_inv with ⟨_,rfl,e⟩|⟨h,_⟩
      ·exact⟨none,0,[],e,rfl,AZ.nil w g,λh=>Xd⟩
      ·cases h
     |false=>
      obtain⟨ad,n,c,sz,ws,ev,a,za,ja,ya,o,oa,_⟩:=sa.slice_list;subst a;refine⟨some ad,c,ws,ev,?_,o,λ_=>⟨ad,rfl,oa⟩⟩;rw[ya];cases xs with
      |nil=>simp
      |cons x r=>
       have q:=ja x (Qq ..);rw[(p x (Qq ..)).1]at q;rw[←q,Nat.mul_one]
    subst e0;have ga:((k.toNat:Nat):Int)=k:=QJ qa;have hw:=aGA w sp xs.length c k.toNat cs oa ra.2.1 O wa;rw[ga]at hw;refine hw.mono ?_;rintro e w' ⟨rfl,rfl⟩;rw[V0];have ja:(cs++(madeCells #[Value.int .u8 0] (xs.length+k.toNat)).toList.drop xs.length).toArray.size=(xs.length+k.toNat)*1:=by simp[madeCells,oa]
    have cb:∃ti z,Tryz.prog.info? 5=some ti∧ti.size=1∧ti.zero=some z∧z.cells.size=1:=⟨Tryz.t5,.int .u8 0,Z,Z,Z,Z⟩;have pa:=b (0::fr) (ZL 0 fr);have ka:=hi.newTok pa (e:=5) (n:=xs.length) (c:=xs.length+k.toNat) (sz:=1) (cur:=(cs++(madeCells #[Value.int .u8 0] (xs.length+k.toNat)).toList.drop xs.length).toArray) V cb O Xp ja;have f:=Ht.newTok (w:=w) (t:=0::fr) (n:=xs.length) (c:=xs.length+k.toNat) (sz:=1) (Obj.cells (cs++(madeCells #[Value.int .u8 0] (xs.length+k.toNat)).toList.drop xs.length).toArray 5) hi.gz pa.2.2 rfl;refine⟨_,_,rfl,ka,f,?_,λi hf a=>C0 hf (λh=>a ((ZL 0 fr).trans h)) _ _ _ _ _⟩;refine aG (sz:=1) (cur:=(cs++(madeCells #[Value.int .u8 0] (xs.length+k.toNat)).toList.drop xs.length).toArray) (T:=5) (fz:=(0,0)) (heap_alloc_new w _) rfl O (λd hd=>(p d hd).1) (ra.ext f) (λj v hv=>?_) Xm (λ_=>Xm) (λd hd=>(p d hd).2);rw[List.getElem?_toArray,QQ (Qz.1 hv).1];exact hv
  ·cases y
 ·cases y
def aKQ{d:D}{n:Bool}{t:Id}{xs ys:List D}(h:d= .slice n t xs)(e:xs=ys):d= .slice n t ys:=e▸h
def aHV{S:GZ}(a:S 142=some (cQ 5 aG9 aKn)){l:List Mt}{nl:Bool}{Q:Ex->St->Prop}(hl:Sl l)
  (o:∀y n t,y.s 3= .slice n t (Az (F_ l))->Q (.exit 0) y):
  ∀(f j:Nat)(n:Bool)(t:Id)(y:St) g,l.length=j+f->y.s 3= .slice n t (Az (F_ (l.take j)))->y.s 8= .slice nl [] (AA l)->y.s 9= .int .i64 (l.length:Int)->y.s 10= .int .i64 (j:Int)->Ba S [] Pp Q y g:=by
 intro f;induction f with
 |zero=>
  intro j n t y g e i h8 v r;refine Af Pp.eq_1 ?_;have:¬((j:Int)<l.length):=O
  simp only[↓C2,G8,Hj,reduceIte,Qe,v,r,this];rw[Qt O]at i;exact o _ n t i
 |succ f ih=>
  intro j n t y g e i h8 v r;refine Af Pp.eq_1 ?_;have d:j<l.length:=O
  have u:((j:Int)<l.length):=O
  have oa:=nJ (j:=j);have c:=hl.1;have hb:=oB hl j O;have w:=hl.2 _ (cK d);have hw:=wJ (j:=j) O;have x:(AA l)[j]?=some (.agg [.str (Cw l j).1,.int .i64 (Cw l j).2.1,.bool (Cw l j).2.2]):=ME d;have z:=S0 d;generalize Cw l j=m at x w z;obtain⟨p,k,b⟩:=m;simp only at w x;have hF:aKn [.str p]=some (Az (aHb p),[17]):=if_pos O;obtain⟨ka,fa,q⟩:=y;simp only at i h8 v r;cases b with
  |true=>
   simp only[↓C2,Hf,simprocAttr,h8,v,r,i,u,oa,Qn,x,AG a,Ah,Au,Av,Qm,Zr,Zi,Q4,QE];refine aLF (T8 _) (by rw[B_];omega) hF ?_;simp only[↓C2,Hf,simprocAttr,aG9,i,and_false,Uw,Ah,Qm,and_false];refine As.intro ⟨YG,rfl,.inr ⟨by simp[BC],U⟩⟩ ?_;simp only[↓C2,G_,simprocAttr,r,hw];refine ih (j+1) false _ _ _ O (aKQ rfl ?_) h8 v rfl;rw[z];simp only[mtB,Ed,Q3];simp only[Az,QW,Za];rw[Iv O];rfl
  |false=>
   simp only[↓C2,Hf,simprocAttr,h8,v,r,i,u,oa,Qn,x,AG a,Ah,Au,Av,Qm,Zr,Zi,Q4,QE];refine aLF (T8 _) (by rw[B_];omega) hF ?_;simp only[↓C2,Hf,simprocAttr,aG9,i,and_false,Uw,Ah,Qm,and_false];refine As.intro ⟨YG,rfl,.inr ⟨by simp[BC],U⟩⟩ ?_;simp only[↓C2,G_,simprocAttr,r,hw];refine ih (j+1) false _ _ _ O (aKQ rfl ?_) h8 v rfl;rw[z];simp only[mtB,Ed,Q3];simp only[Az,QW,Za];rw[Iv O];rfl
def P9(p:Bool×List Mt):List D:=[.agg [.slice p.1 [] (AA p.2)]]
def vB(x y:Bool×List Mt)(e:P9 x=P9 y):x=y:=by
 grind [P9,cI]
def zO:List D->Option D:=FX P9 (λp=>Sl p.2) (λp=> .str (F_ p.2))
def Wm{n:Bool}{l:List Mt}(h:Sl l):zO [.agg [.slice n [] (AA l)]]=some (.str (F_ l)):=B5 (mk:=P9) (a:=(n,l)) vB h
def aBn:Kq zO 86:=by
 obtain⟨S,g,hl⟩:=Bp (Aa (aTP aTA) Ad);have a:=hl 142 _ rfl;clear hl;refine Da g (Ai func86:Fn Qd 86 35 aNP [.t 2]) (λ_=>by simp[P9]) (λp c=>?_);obtain⟨n,l⟩:=p;have hl:Sl l:=c;unfold aNP P9;simp only[↓C2,G8,H_,simprocAttr,AU,Ah,Qi,QL,Qb,Qh,Ql,List.getElem?_cons_zero,and_self];refine aHV a hl (λy r z e=>?_) l.length 0 true [] _ _ O rfl rfl rfl rfl;simp only[↓C2,G8,H_,simprocAttr,e,aIH,Cz,and_self]
def Sx(o:Oc)(nl:Bool)(l:List Mt):Oc:={o with vw:={o.vw with nlm:=nl,ms:=l}}
def cM(o:Oc)(nl:Bool)(l:List Mt):Oc:={(Sx o nl l).op 1 (Aw 4 [] 0) (F_ l)with rep:=HD .done}
def umO(o:Oc)(nl:Bool)(l:List Mt)(p:Bs):Oc:={((((Sx o nl l).op 1 (Aw 4 [] 0) (F_ l)).op 3 ([109,47]++p++[47]) []).op 3 ([100,47]++p++[47]) [])with rep:=HD .done}
def S58:=Ao [(129,Ac F45),(144,wQ OD),(211,Ac Fo),(86,Ac zO),(210,wQ N6),(146,wQ zU)]
def W58:Wb->Oc->List D->Option WY:=RW S58 aQS [] 48
def aYr:(wQ W58).ok Qd 148:=Dt (Ai func148) (Aa aX2 (Aa Sz (Aa IL (Aa aBn (Aa MJ (Aa kM Ad))))))
def aEH(w:Wb)(o:Oc)(c:Oc)(ol:Option (List Nat))(g:o.nl=true->o.ops=[])(s:Bool)(z:List Mt)(e:Int)(y:F45 [.agg [.slice w.v.nlm [] (AA w.v.ms)],.agg [.str w.a.pa,.int .i64 w.a.n,.bool w.a.fl]]=some (.tup [.agg [.slice s [] (AA z)],.int .i64 e]))(f:e≠0)(r:OD w o [.int .i64 e]=some (.tup [],c,ol)):W58 w o []=some (.tup [],c,ol.map (·++[33])):=by
 refine A8 g ⟨Qa rfl,λh=>CH r h,λl h=>CG r h,λi m fr t x j ia n0=>?_⟩;have k:=Wt.start x j;unfold aQS;have xx:=AN x.1;simp only[G7,↓C2,GY,simprocAttr,xx,Ae S58 129,y];refine Ws ?_;simp only[↓C2,G_,GY,simprocAttr,eq_false f,AE S58 144];refine Aq k.put.put r (λM c1 p=>?_);simp only[↓C2,G8,simprocAttr];exact c1.endc x.2.2
def aEG(w:Wb)(o:Oc)(s:Bool)(c:List Mt)(y:F45 [.agg [.slice w.v.nlm [] (AA w.v.ms)],.agg [.str w.a.pa,.int .i64 w.a.n,.bool w.a.fl]]=some (.tup [.agg [.slice s [] (AA c)],.int .i64 0]))(z:iL o)(k:Sl c):W58 w o []=some (.tup [],cM o s c,some ([11,42])):=by
 refine A8 (λ_=>z.ops) ⟨Qa rfl,λh=>Xc,λl h=>XC,λi m fr t x j ia n0=>?_⟩;have hW:=Wt.start x j;unfold aQS;have g:=AN x.1;have hk:=C7 4 0 [] U;have r:=hk;have b:=Wm (n:=s) k;have e:=DY w (Sx o s c) 1 (Aw 4 [] 0) (F_ c) (λ_=>z.ops) Yi;have f:=I2 w ((Sx o s c).op 1 (Aw 4 [] 0) (F_ c)) (λh=>Xc);simp only[G7,↓C2,GY,simprocAttr,g,Ae S58 129,y];refine Ws ?_;simp only[G7,↓C2,GY,simprocAttr,g,n0,Ae S58 211,r,Ae S58 86,b,AE S58 210];refine CC (hW.put.put.cellp (p:=28) (ys:=[.slice s [] (AA c)]) (o':=Sx o s c) (Qa rfl) rfl rfl rfl) e (λM u q c1 d=>?_);simp only[↓C2,G8,H_,simprocAttr];refine Ws ?_;simp only[↓C2,G8,Hj,simprocAttr,AE S58 146];refine Aq c1 f (λM2 d1 d2=>?_);simp only[↓C2,G8,simprocAttr];exact d1.endl (l:=[11,42]) U
def S59:=Ao [(212,Ac yY),(144,wQ OD),(211,Ac Fo),(86,Ac zO),(210,wQ N6),(213,Ac yX),(146,wQ zU)]
def W59:Wb->Oc->List D->Option WY:=RW S59 aQR [] 53
def aYq:(wQ W59).ok Qd 149:=Dt (Ai func149) (Aa aVN (Aa Sz (Aa IL (Aa aBn (Aa MJ (Aa aLt (Aa kM Ad)))))))
def aEF(w:Wb)(o:Oc)(u:Oc)(ol:Option (List Nat))(y:o.nl=true->o.ops=[])(s:Bool)(z:List Mt)(e:Int)(c:yY [.agg [.slice w.v.nlm [] (AA w.v.ms)],.str w.a.pa]=some (.tup [.agg [.slice s [] (AA z)],.int .i64 e]))(f:e≠0)(r:OD w o [.int .i64 e]=some (.tup [],u,ol)):W59 w o []=some (.tup [],u,ol.map (·++[21])):=by
 refine A8 y ⟨Qa rfl,λh=>CH r h,λl h=>CG r h,λi m fr t x j ia n0=>?_⟩;have k:=Wt.start x j;unfold aQR;have g:=AN x.1;simp only[G7,↓C2,GY,simprocAttr,g,Ae S59 212,c];refine Ws ?_;simp only[↓C2,G_,GY,simprocAttr,eq_false f,AE S59 144];refine Aq k.put.put r (λM c1 p=>?_);simp only[↓C2,G8,simprocAttr];exact c1.endc x.2.2
def aRd(w:Wb)(o:Oc)(s:Bool)(l2:List Mt)(c:yY [.agg [.slice w.v.nlm [] (AA w.v.ms)],.str w.a.pa]=some (.tup [.agg [.slice s [] (AA l2)],.int .i64 0]))(z:iL o)(k:Sl l2)(hp:w.a.pa.length<=1000000):W59 w o []=some (.tup [],umO o s l2 w.a.pa,some ([11,54])):=by
 refine A8 (λ_=>z.ops) ⟨Qa rfl,λh=>Xc,λl h=>XC,λi m fr t x j ia n0=>?_⟩;have hW:=Wt.start x j;unfold aQR;have xx:=AN x.1;have hk:=C7 4 0 [] U;have r:=hk;have b:=Wm (n:=s) k;have ra:=DY w (Sx o s l2) 1 (Aw 4 [] 0) (F_ l2) (λ_=>z.ops) Yi;have ua:=Wd w.a.pa hp;generalize wa:([109,47]++w.a.pa++[47]:Bs)=q1 at ua;generalize f:([100,47]++w.a.pa++[47]:Bs)=q2 at ua;have d:=DY w ((Sx o s l2).op 1 (Aw 4 [] 0) (F_ l2)) 3 q1 [] (λh=>Xc) (by simp[Oc.op,Sx,z.ops]);have e:=DY w (((Sx o s l2).op 1 (Aw 4 [] 0) (F_ l2)).op 3 q1 []) 3 q2 [] (λh=>Xc) (by simp[Oc.op,Sx,z.ops]);have la:=I2 w ((((Sx o s l2).op 1 (Aw 4 [] 0) (F_ l2)).op 3 q1 []).op 3 q2 []) (λh=>Xc);have y0:((0:Nat):Int)=0:=rfl;have y1:((1:Nat):Int)=1:=rfl;have y2:((2:Nat):Int)=2:=rfl;have w1:IntKind.i64.wrap 1=1:=rfl;have w2:IntKind.i64.wrap 2=2:=rfl;have z1:(0:Int)+1=1:=rfl;have z2:(1:Int)+1=2:=rfl;unfold umO;rw[wa,f];simp only[G7,↓C2,GY,simprocAttr,xx,Ae S59 212,c];refine Ws ?_;simp only[G7,↓C2,GY,simprocAttr,xx,n0,Ae S59 211,r,Ae S59 86,b,AE S59 210];refine CC (hW.put.put.cellp (p:=28) (ys:=[.slice s [] (AA l2)]) (o':=Sx o s l2) (Qa rfl) rfl rfl rfl) ra (λM u q c1 c2=>?_);have xx:=AN c1.at_.1;simp only[↓C2,G8,H_,simprocAttr];refine Ws ?_;simp only[↓C2,G_,GY,simprocAttr,xx.2.2.2.2.2.2.2.1,Ae S59 213,ua,Qb,Qh];refine Af VC.eq_1 ?_;simp only[↓C2,G_,GY,simprocAttr,QY,Qb,Qh,AE S59 210];refine Aq c1 d (λM2 d1 d2=>?_);simp only[↓C2,G8,simprocAttr,w1,z1];refine Af VC.eq_1 ?_;simp only[↓C2,G_,GY,simprocAttr,ZG,Qb,Qh,AE S59 210];refine Aq d1 e (λM3 g y=>?_);simp only[↓C2,G8,simprocAttr,w2,z2];refine Af VC.eq_1 ?_;simp only[↓C2,G_,GY,simprocAttr,AE S59 146];refine Aq g la (λM4 f1 f2=>?_);simp only[↓C2,G8,simprocAttr];exact f1.endl (l:=[11,54]) U
def VP:=y1 f137 5 [] []
def VO:=y1 f137 13 [] []
def aM1:=y0 f137 [] [(5,VP),(13,VO)]
def aNM:=y0 f82 [] []
def aAO(s:Bs):Bs:=iJ 2 (s.length:Int)++s
def Cj(l:List Bs):Bs:=l.flatMap aAO
def bU(l:List Bs)(s:Bs):Cj (l++[s])=Cj l++iJ 2 (s.length:Int)++s:=by simp[Cj,aAO]
def PY:∀{l:List Bs},(∀s∈l,s.length<=60000)->(Cj l).length<=60002*l.length
 |[],_=>by simp[Cj]
 |x::r,h=>by
  have ih:=PY (l:=r) (λs j=>h s (QG _ j));have q:=h x Qq;have e:Cj (x::r)=aAO x++Cj r:=by simp[Cj]
  rw[e];simp only[Qj,aAO,beB_len,Qb];omega
def aW1:=Ao [(201,gQ 5 SR)]
def aJC:=RF aW1 aM1 [.t 2,.t 3] 46
def aVw:Kq aJC 137:=Am (Ai func137) (Aa aKY Ad)
def aJB(nl:Bool)(l:List Bs)(hl:l.length<=1024)(hs:∀s∈l,s.length<=60000):aJC [.slice nl [] (strsD l)]=some (.tup [.slice false [] (Az (Cj l)),.int .i64 0]):=by
 refine Al (Qa rfl) ?_;unfold aM1;have r:((1024:Int)<(l.length:Int))=False:=eq_false O;simp only[↓C2,G8,Hj,GY,reduceIte,Qc,Qe,reduceCtorEq,AS,r];refine Bv (n:=l.length) (I:=λj y=>y.s 13= .slice nl [] (strsD l)∧y.s 14= .int .i64 l.length∧y.s 15= .int .i64 (j:Int)∧y.s 0= .slice nl [] (strsD l)∧∃a:Int,y.s 4= .int .i64 a∧0<=a∧a<=60002*(j:Int)) (λj hj ih y g hI=>?_) (λy g hI=>?_) 0 (Qi _) _ _ ⟨rfl,rfl,rfl,rfl,0,rfl,O,O⟩
 ·obtain⟨ka,fa,da⟩:=y;obtain⟨ra,wa,ua,w,a,h4,d,e⟩:=hI;simp only at ra wa ua w h4;refine Af VP.eq_1 ?_;have ea:((j:Int)<(l.length:Int))=True:=eq_true O;have oa:=nJ (j:=j);have hw:IntKind.i64.wrap ((j:Int)+1)=((j+1:Nat):Int):=by rw[Hu O O];omega
  have ja:=DK (l:=l) (j:=j) hj;have q:=hs l[j] (QM hj);generalize l[j]=x at ja q;have hb:((65535:Int)<(x.length:Int))=False:=eq_false O;have w1:IntKind.i64.wrap (2+(x.length:Int))=2+(x.length:Int):=Hu O O;have w2:IntKind.i64.wrap (a+(2+(x.length:Int)))=a+(2+(x.length:Int)):=Hu O O;simp only[↓C2,G_,GY,reduceIte,Qc,Qe,ra,wa,ua,h4,ea,oa,Qn,ja,hb,w1,w2,hw];exact ih _ _ ⟨ra,wa,rfl,w,_,rfl,O,O⟩
 ·obtain⟨ka,fa,da⟩:=y;obtain⟨ra,wa,ua,w,a,h4,d,e⟩:=hI;simp only at ra wa ua w h4;refine Af VP.eq_1 ?_;have f:¬(a<0):=by omega
  simp only[↓C2,G_,GY,reduceIte,Qc,Qe,ZJ,wa,ua,h4,Q8,d];refine As.intro (by have e2:((1:Nat):Int)+1=2:=rfl;rw[e2];omega) ?_;simp only[↓C2,G8,GY,reduceIte,Qc,Qe,reduceCtorEq,w,AS,QY,List.replicate_zero];refine Bv (n:=l.length) (I:=λj y=>y.s 30= .slice nl [] (strsD l)∧y.s 31= .int .i64 l.length∧y.s 32= .int .i64 (j:Int)∧∃t,y.s 7= .slice false t (Az (Cj (l.take j)))∧Gd 5 [] (λ_ _=>none) true [] y.m y.c t) (λj hj ih y g hI=>?_) (λy g hI=>?_) 0 (Qi _) _ _ ⟨rfl,rfl,rfl,_,rfl,⟨[],_,rfl,Xa⟩,XK,λi o hi=>absurd ⟨i,U⟩ hi⟩
  ·obtain⟨ka,fa,da⟩:=y;obtain⟨v,b,p,t,h7,hG⟩:=hI;simp only at v b p h7 hG;refine Af VO.eq_1 ?_;have ea:((j:Int)<(l.length:Int))=True:=eq_true O;have oa:=nJ (j:=j);have hw:IntKind.i64.wrap ((j:Int)+1)=((j+1:Nat):Int):=by rw[Hu O O];omega
   have ja:=DK (l:=l) (j:=j) hj;have q:=hs l[j] (QM hj);have z:l.take (j+1)=l.take j++[l[j]]:=QT hj;have qa:(Cj (l.take j)).length<=60002*j:=by
    have:=PY (l:=l.take j) (λs hh=>hs s (Zf hh));rw[Q6]at this;omega
   generalize l[j]=x at ja q z;have wu:IntKind.u64.wrap (x.length:Int)=(x.length:Int):=by
    unfold IntKind.wrap;simp only;rw[show IntKind.u64.bits=64 from rfl,show IntKind.u64.signed=false from rfl,ZB,if_neg Bool.false_ne_true];omega
   have hF:SR [.int .i64 2,.int .u64 (x.length:Int)]=some (Az (iJ 2 (x.length:Int)),[26]):=by
    show(if 1<=(2:Int)∧(2:Int)<=8∧0<=(x.length:Int)then some (Az (iJ (2:Int).toNat (x.length:Int)),[13*(2:Int).toNat])else none)=_;rw[if_pos ⟨O,O,O⟩];rfl
   have u:=hG.gs;have sa:BY (λ_ _=>none) 5 true [] true=true:=rfl;simp only[↓C2,G_,GY,reduceIte,Qc,Qe,v,b,p,h7,ea,oa,Qn,ja,wu,AE aW1 201];refine aLE (u.grow (λ_ _ _=>rfl) sa) (λh=>Xc) (by simp[Az];omega) hF ?_;have hA:=u.app (k:=da+1+3+4) (c':=da+1+3+5) (l:=[26]) (xs:=Az (Cj (l.take j))) O O;simp only[↓C2,G8,H_,GY,reduceIte,Qc,Qe];refine As.intro ⟨by simp only[Qj,Az,QI,beB_len];omega,by cases x<;>rfl,hA.gs.grow (λ_ _ _=>rfl) sa⟩ ?_;have hB:=hA.gs.app (k:=da+1+3+6+2) (c':=da+1+3+6+3) (l:=[]) (xs:=Az (Cj (l.take j))++Az (iJ 2 (x.length:Int))) O O;simp only[↓C2,G8,GY,reduceIte,Qc,Qe,p,hw];refine ih _ _ ⟨v,b,rfl,_,?_,hB.more Xa⟩;rw[z,bU];show D.slice _ _ _=_;simp[Az]
  ·obtain⟨ka,fa,da⟩:=y;obtain⟨v,b,p,t,h7,hG⟩:=hI;simp only at v b p h7 hG;refine Af VO.eq_1 ?_;rw[Zs]at h7;simp only[↓C2,G_,GY,reduceIte,Qc,Qe,b,p,h7,Q8]
   all_goals exact Y0
def aIS:=Ao [(135,Ac zP),(136,Ac aKm),(137,Ac aJC)]
def yW:=RF aIS aNM [.t 2,.t 3] 31
def aLs:Kq yW 82:=Am (Ai func82) (Aa aK9 (Aa aK3 (Aa aVw Ad)))
def sG(n p:Bs)(a:Bool)(rs:List Rl)(w:Bs)(v:Int)(r:zP [.agg [.str n,.str p,.slice a [] (Ar rs)]]=some (.int .i64 0))(j:aKm [.slice a [] (Ar rs)]=some (.tup [.str w,.int .i64 v]))(c:p.length<=60000)(i:w.length<=60000):yW [.agg [.str n,.str p,.slice a [] (Ar rs)]]=some (.tup [.str (Cj [p,w]),.int .i64 0]):=by
 refine Al (Qa rfl) ?_;unfold aNM;have b:aJC [.slice false [] [.str p,.str w]]=some (.tup [.slice false [] (Az (Cj [p,w])),.int .i64 0]):=aJB false [p,w] U (by
  intro s z;simp only[Qr,Zp,or_false]at z;rcases z with rfl|rfl
  ·exact c
  ·exact i)
 simp only[G7,↓C2,GY,reduceIte,Qc,Qe,ZU,Ae aIS 135,r,Ae aIS 136,j,Ae aIS 137,b,Cz]
 all_goals exact Y0
def TF(o:Oc)(nl:Bool)(l:List Tk):Oc:={o with vw:={o.vw with nlt:=nl,ks:=l}}
def mkO(o:Oc)(nl:Bool)(l:List Tk)(n u:Bs):Oc:={(TF o nl l).op 1 (Aw 3 n 0) u with rep:=HD .done}
def zV:=Ao [(196,Ac F50),(19,Ac nO),(82,Ac yW),(144,wQ OD),(211,Ac Fo),(210,wQ N6),(146,wQ zU)]
def W60:Wb->Oc->List D->Option WY:=RW zV aIr [] 72
def aYp:(wQ W60).ok Qd 150:=Dt (Ai func150) (Aa aX1 (Aa aUc (Aa aLs (Aa Sz (Aa IL (Aa MJ (Aa kM Ad)))))))
def aEE(w:Wb)(o:Oc)(c:Oc)(ol:Option (List Nat))(y:o.nl=true->o.ops=[])(s:Bool)(z:List Tk)(e:Int)(b:F50 [.agg [.slice w.v.nlt [] (AL w.v.ks)],.agg [.str w.a.ot,.str w.a.tk,.slice w.a.nlr [] (Ar w.a.rs)]]=some (.tup [.agg [.slice s [] (AL z)],.int .i64 e]))(f:e≠0)(r:OD w o [.int .i64 e]=some (.tup [],c,ol)):W60 w o []=some (.tup [],c,ol.map (·++[47])):=by
 refine A8 y ⟨Qa rfl,λh=>CH r h,λl h=>CG r h,λi m fr t x j ia n0=>?_⟩;have k:=Wt.start x j;unfold aIr;have g:=AN x.1;simp only[G7,↓C2,GY,simprocAttr,g];refine Ws ?_;simp only[G7,↓C2,GY,simprocAttr,g,n0,Ae zV 196,b];refine Ws ?_;simp only[↓C2,G_,GY,simprocAttr,eq_false f,AE zV 144];refine Aq k.put.put.put.put r (λM c1 p=>?_);simp only[↓C2,G8,simprocAttr];exact c1.endc x.2.2
def aED(w:Wb)(o:Oc)(c:Oc)(ol:Option (List Nat))(y:o.nl=true->o.ops=[])(s:Bool)(z:List Tk)(b:F50 [.agg [.slice w.v.nlt [] (AL w.v.ks)],.agg [.str w.a.ot,.str w.a.tk,.slice w.a.nlr [] (Ar w.a.rs)]]=some (.tup [.agg [.slice s [] (AL z)],.int .i64 0]))(nb:Bool)(ns:List D)(f:nO [.agg [.slice w.v.nlt [] (AL w.v.ks)]]=some (.slice nb [] ns))(g:(24:Int)<=(ns.length:Int))(r:OD w o [.int .i64 24]=some (.tup [],c,ol)):W60 w o []=some (.tup [],c,ol.map (·++[48])):=by
 refine A8 y ⟨Qa rfl,λh=>CH r h,λl h=>CG r h,λi m fr t x j ia n0=>?_⟩;have k:=Wt.start x j;unfold aIr;have n:=AN x.1;simp only[G7,↓C2,GY,simprocAttr,n];refine Ws ?_;simp only[G7,↓C2,GY,simprocAttr,n,n0,Ae zV 196,b];refine Ws ?_;simp only[G7,↓C2,GY,simprocAttr,n,n0,Ae zV 19,f,eq_true g,AE zV 144];refine Aq k.put.put.put.put r (λM c1 p=>?_);simp only[↓C2,G8,simprocAttr];exact c1.endc x.2.2
def aRc(w:Wb)(o:Oc)(s:Bool)(y:List Tk)(b:F50 [.agg [.slice w.v.nlt [] (AL w.v.ks)],.agg [.str w.a.ot,.str w.a.tk,.slice w.a.nlr [] (Ar w.a.rs)]]=some (.tup [.agg [.slice s [] (AL y)],.int .i64 0]))(nb:Bool)(ns:List D)(f:nO [.agg [.slice w.v.nlt [] (AL w.v.ks)]]=some (.slice nb [] ns))(z:iL o)(hm:¬(24:Int)<=(ns.length:Int))(u:Bs)(k:Int)(g:yW [.agg [.str w.a.ot,.str w.a.tk,.slice w.a.nlr [] (Ar w.a.rs)]]=some (.tup [.str u,.int .i64 k]))(c:w.a.ot.length<=1000000):W60 w o []=some (.tup [],mkO o s y w.a.ot u,some ([11,67])):=by
 refine A8 (λ_=>z.ops) ⟨Qa rfl,λh=>Xc,λl h=>XC,λi m fr t x j ia n0=>?_⟩;have q:=Wt.start x j;unfold aIr;have r:=C7 3 0 w.a.ot c;have e:=DY w (TF o s y) 1 (Aw 3 w.a.ot 0) u (λ_=>z.ops) Yi;have n:=I2 w ((TF o s y).op 1 (Aw 3 w.a.ot 0) u) (λh=>Xc);have xx:=AN x.1;simp only[G7,↓C2,GY,simprocAttr,xx];refine Ws ?_;simp only[G7,↓C2,GY,simprocAttr,xx,n0,Ae zV 196,b];refine Ws ?_;simp only[G7,↓C2,GY,simprocAttr,xx,n0,Ae zV 19,f,eq_false hm,Ae zV 82,g,Ae zV 211,r,AE zV 210];refine Aq (q.put.put.put.put.cellp (p:=29) (ys:=[.slice s [] (AL y)]) (o':=TF o s y) (Qa rfl) rfl rfl rfl) e (λM c1 d=>?_);simp only[↓C2,G8,Hj,simprocAttr,AE zV 146];refine Aq c1 n (λM2 d1 d2=>?_);simp only[↓C2,G8,simprocAttr];exact d1.endl (l:=[11,67]) U
def aL3:=y0 f238 [] []
def aMi:=y0 Tryz.f166 [] []
def aMY:=y0 f271 [] []
def lY:=y1 f152 6 [] []
def aIp:=y0 f152 [] [(6,lY)]
def kU:∀(l:Bs)(c:UInt8),Lib.indexByte l c=-1∨(0<=Lib.indexByte l c∧Lib.indexByte l c<(l.length:Int))
 |[],_=> .inl rfl
 |b::l,c=>by
  have ih:=kU l c;simp only[Lib.indexByte,beq_iff_eq,Qb];split
  ·omega
  ·omega
def BB(s:Bs)(c:UInt8):Bs×Bs×Bool:=if Lib.indexByte s c<0 then(s,[],false)else(s.take (Lib.indexByte s c).toNat,s.drop ((Lib.indexByte s c).toNat+1),true)
def Cq(s z:Bs):Bs×Bool:=if Cu s z=false then([],false)else if(BB (Dl s z) 47).2.2=true then((BB (Dl s z) 47).1++[47],true)else(Dl s z,true)
def aXp{s:Bs}{c:UInt8}:IX [.str s,.str [c]]=some (.int .i64 (Lib.indexByte s c)):=rfl
def aRj:=Ao [(237,Ac IX)]
def aRI:=RF aRj aL3 [.t 4,.t 5,.t 6] 23
def aUZ:Kq aRI 238:=Am (Ai func238) (Aa aU3 Ad)
def aI3(s:Bs)(c:UInt8)(hl:s.length<=1000000):aRI [.str s,.str [c]]=some (.tup [.str (BB s c).1,.str (BB s c).2.1,.bool (BB s c).2.2]):=by
 refine Al (Qa rfl) ?_;unfold aL3;have a:=aXp (s:=s) (c:=c);have m:=kU s c;unfold BB;generalize Lib.indexByte s c=q at *;by_cases y:q<0
 ·have b:((0:Int)<=q)=False:=eq_false O;rw[if_pos y];simp only[↓C2,G_,GY,simprocAttr,Ae aRj 237,a,b]
  all_goals exact Y0
 ·have b:(0:Int)<=q:=by omega
  have n:(q<=(s.length:Int))=True:=eq_true O;have v:(q+1<=(s.length:Int))=True:=eq_true O;have d:(0:Int)<=q+1:=O
  have o:(q+1).toNat=q.toNat+1:=O
  have w:q.toNat<=s.length:=O
  have z:q.toNat+1<=s.length:=O
  have t:IntKind.i64.wrap (q+1)=q+1:=Hu O O;have y1:((1:Nat):Int)=1:=rfl;have e:Zq (s.length-(q.toNat+1)) (s.drop (q.toNat+1))=s.drop (q.toNat+1):=Qt XO;rw[if_neg y];simp only[↓C2,G_,GY,simprocAttr,Ae aRj 237,a,b,n,v,d,o,t,y1,e,QZ,Qb,Qh];refine As.intro (λp k=>by cases k) ?_;simp only[↓C2,G_,GY,simprocAttr]
  all_goals exact Y0
def aWS:=Ao [(238,Ac aRI)]
def aJe:=RF aWS aMi [.t 4,.t 5,.t 6] 13
def aLf:Kq aJe 166:=Am (Ai func166) (Aa aUZ Ad)
def rW(s:Bs)(c:UInt8)(hl:s.length<=1000000):aJe [.str s,.str [c]]=some (.tup [.str (BB s c).1,.str (BB s c).2.1,.bool (BB s c).2.2]):=by
 refine Al (Qa rfl) ?_;unfold aMi;have a:=aI3 s c hl;simp only[↓C2,G_,GY,simprocAttr,Ae aWS 238,a]
 all_goals exact Y0
def yT:=Ao [(109,Ac zG),(166,Ac aJe)]
def aXl:=RF yT aMY [.t 4,.t 5] 29
def aVu:Kq aXl 271:=Am (Ai func271) (Aa aKX (Aa aLf Ad))
def aJz(s z:Bs)(hl:s.length<=1000000)(i:(Dl s z).length<=s.length):aXl [.str s,.str z]=some (.tup [.str (Cq s z).1,.bool (Cq s z).2]):=by
 refine Al (Qa rfl) ?_;unfold aMY;have c:zG [.str s,.str z]=some (.tup [.str (Dl s z),.bool (Cu s z)]):=rfl;have d:=rW (Dl s z) 47 O;have m:(BB (Dl s z) 47).1.length<=(Dl s z).length:=by
  grind [BB]
 unfold Cq;generalize BB (Dl s z) 47=q at *;generalize Dl s z=r at *;obtain⟨k,o,t⟩:=q;simp only at m d ⊢;cases hb:Cu s z with
 |false=>
  rw[hb]at c;simp only[↓C2,G_,GY,simprocAttr,Ae yT 109,c]
  all_goals exact Y0
 |true=>
  rw[hb]at c;have x:=I1 (a:=k) (b:=[47]) YD;cases t with
  |false=>
   simp only[↓C2,G_,GY,simprocAttr,Ae yT 109,c,Ae yT 166,d]
   all_goals exact Y0
  |true=>
   have w:(k.length+1<=9223372036854775807)=True:=eq_true O;simp only[↓C2,G_,GY,simprocAttr,Ae yT 109,c,Ae yT 166,d,x]
   all_goals exact Y0
def VH:=y1 f312 2 [] []
def aMk:=y0 f312 [] [(2,VH)]
def aM0:=y0 f269 [] []
def wE{l:List Bs}{n:Bs}{j:Nat}(d:j<l.length)(q:n=l[j])(ia:∀i (h:i<j),n≠l[i]'(by omega)):Bm (l.map λx=>decide (n=x))=j:=by
 unfold Bm;have:(l.map λx=>decide (n=x)).findIdx? id=some j:=by
  rw[List.findIdx?_eq_some_iff_getElem];refine⟨Xv,by simp[q],λi hi=>?_⟩;have:=ia i hi;simpa using this
 rw[this]
def wD{l:List Bs}{n:Bs}(ia:∀i (h:i<l.length),n≠l[i]):Bm (l.map λx=>decide (n=x))=-1:=by
 unfold Bm;have:(l.map λx=>decide (n=x)).findIdx? id=none:=by
  rw[List.findIdx?_eq_none_iff];intro b m;obtain⟨x,q,rfl⟩:=Qw.1 m;obtain⟨i,hi,rfl⟩:=QK q;simpa using ia i hi
 rw[this]
def Gn(l:List Bs)(n:Bs):Bool:=l.any λx=>decide (n=x)
def dY(l:List Bs)(n:Bs):decide (0<=Bm (l.map λx=>decide (n=x)))=Gn l n:=by
 rw[GQ,List.any_map];rfl
def aYU:=Ao []
def aRP:=RF aYU aMk [.t 4] 19
def aVb:Kq aRP 312:=Am (Ai func312) Ad
def aJf{nl:Bool}{l:List Bs}(n:Bs)(hl:l.length<=100000):aRP [.slice nl [] (strsD l),.str n]=some (.int .i64 (Bm (l.map λx=>decide (n=x)))):=by
 refine Al (Qa rfl) ?_;unfold aMk;simp only[↓C2,G8,simprocAttr,AS];refine Bv (n:=l.length) (I:=λj y=>y.s 0= .slice nl [] (strsD l)∧y.s 1= .str n∧y.s 7= .int .i64 l.length∧y.s 8= .int .i64 (j:Int)∧∀i (h:i<j) (f:i<l.length),n≠l[i]) (λj d ih y g p=>?_) (λy g p=>?_) 0 (Qi _) _ _ ⟨rfl,rfl,rfl,rfl,λi h=>absurd h (ZN _)⟩
 ·obtain⟨w,b,c⟩:=y;obtain⟨z,u,a,r,ia⟩:=p;simp only at z u a r;refine Af VH.eq_1 ?_;have k:((j:Int)<l.length):=by omega
  have m:=nJ (j:=j);have t:=wJ (j:=j) O;have v:=DK (l:=l) (j:=j) d;by_cases q:n=l[j]
  ·have e:=wE d q (λi h=>ia i h O);have o:(n=l[j])=True:=eq_true q;simp only[↓C2,G_,GY,simprocAttr,z,u,a,r,k,m,Qn,v,o];rw[e]
   all_goals exact Y0
  ·have o:(n=l[j])=False:=eq_false q;simp only[↓C2,G_,GY,simprocAttr,z,u,a,r,k,m,Qn,v,o,t];refine ih _ _ ⟨z,u,a,rfl,λi h f=>?_⟩;rcases Nat.lt_or_eq_of_le (Nat.le_of_lt_succ h)with h|rfl
   ·exact ia i h f
   ·exact q
 ·obtain⟨z,u,a,r,ia⟩:=p;refine Af VH.eq_1 ?_;have e:=wD (λi h=>ia i h h);simp only[↓C2,G_,GY,simprocAttr,a,r,Q8];rw[e]
  all_goals exact Y0
def aW0:=Ao [(312,Ac aRP)]
def aXm:=RF aW0 aM0 [.t 4] 9
def aVv:Kq aXm 269:=Am (Ai func269) (Aa aVb Ad)
def aJA{nl:Bool}{l:List Bs}(n:Bs)(hl:l.length<=100000):aXm [.slice nl [] (strsD l),.str n]=some (.bool (Gn l n)):=by
 refine Al (Qa rfl) ?_;unfold aM0;have a:=aJf (nl:=nl) n hl;have e:=dY l n;generalize Bm (l.map λx=>decide (n=x))=i at *;simp only[↓C2,G_,GY,simprocAttr,Ae aW0 312,a];rw[←e]
 all_goals exact Y0
def B6(l:List Bs):List Bs:=l.filterMap λs=>if(DN s).2=0∧(DN s).1.1=1 then some (DN s).1.2.1 else none
def bY(l:List Bs)(s:Bs):B6 (l++[s])=B6 l++if(DN s).2=0∧(DN s).1.1=1 then [(DN s).1.2.1]else []:=by
 grind [B6]
def Gx(e:Nat)(fr:Id)(m:G6)(c:Nat)(nl:Bool)(t:Id):Prop:=(nl=true∧t=[])∨(nl=false∧∃k,t=k::fr∧k<c∧m t 0=some (.tok (e+1)))
def Gx.more{e:Nat}{fr:Id}{m:G6}{c c':Nat}{nl:Bool}{t:Id}(h:Gx e fr m c nl t)(w:c<=c'):Gx e fr m c' nl t:=by
 rcases h with h|⟨u,k,f,i,p⟩
 ·exact .inl h
 ·exact .inr ⟨u,k,f,O,p⟩
def Gx.put{e:Nat}{fr:Id}{m:G6}{c:Nat}{nl:Bool}{t:Id}{k o:Nat}{ds:List D}(h:Gx e fr m c nl t)(n:c<=k:=by omega):Gx e fr (m.put (k::fr) o ds) c nl t:=by
 rcases h with h|⟨u,q,f,i,p⟩
 ·exact .inl h
 ·refine .inr ⟨u,q,f,i,?_⟩;rw[aA]
  ·exact p
  ·rw[f];simp;omega
def Gx.grow{e:Nat}{fr:Id}{m:G6}{c:Nat}{nl:Bool}{t:Id}{xs:List D}(h:Gx e fr m c nl t):I6 m e (.slice nl t xs):=by
 rcases h with h|⟨u,q,f,i,p⟩
 ·exact .inl h.1
 ·exact .inr ⟨p,by rw[f];simp⟩
def Gx.app{e:Nat}{fr:Id}{m:G6}{c' k:Nat}{nl:Bool}{t:Id}{xs:List D}(o:k<c'):Gx e fr (Ha.app m (Be e (k::fr) (.slice nl t xs))) c' false (k::fr):=
 .inr ⟨rfl,k,rfl,o,by rw[Dm,if_pos ⟨rfl,rfl⟩]⟩
def Wt.own{i fr t0 t:Id}{m0 m:G6}{nl0:Bool}{w:Wb}{o:Oc}{e c k:Nat}{nl:Bool}{z:Id}{xs:List D}(h:Wt i fr m0 nl0 t0 m w o t)(v:∀j x,fr<:+j->m0 j x=none)(ia:∀k,(i=k::fr)=False)(u:Gx e fr m c nl z):Wt i fr m0 nl0 t0 (Ha.app m (Be e (k::fr) (.slice nl z xs))) w o t:=by
 rcases u with ⟨rfl,_⟩|⟨rfl,q,rfl,_,_⟩
 ·exact h.put v ia
 ·exact(h.put v ia).put v ia
def S62(G:List D->Option D):GZ:=Ao [(213,Ac yX),(215,Ac nI),(216,wQ V9),(22,Ac R38),(217,Ac G),(145,wQ gG)]
def W62(G:List D->Option D):Wb->Oc->List D->Option WY:=RW (S62 G) aIp [] 72
def aYn{G:List D->Option D}(h:Kq G 217):(wQ (W62 G)).ok Qd 152:=Dt (Ai func152:Fn Qd 152 72 aIp []) (Aa aLt (Aa aVM (Aa aB1 (Aa aYw (Aa h (Aa kN Ad))))))
def aEB(G:List D->Option D)(w:Wb)(o:Oc)(u:Oc)(ol:Option (List Nat))(g:o.nl=true->o.ops=[])(z:Bool)(f:List Bs)(c:w.a.pa.length<=1000000)(r:nI [.agg (HG w.k),.str ([109,47]++w.a.pa++[47])]=some (.tup [.slice z [] (strsD f),.bool false]))(e:V9 w o [.str ([109,47]++w.a.pa++[47]),.bool true]=some (.tup [],u,ol)):W62 G w o []=some (.tup [],u,ol.map (·++[24])):=by
 refine A8 g ⟨Qa rfl,λh=>CH e h,λl h=>CG e h,λi m fr t x v ia n0=>?_⟩;have s:S62 G 213=some (Ac yX):=rfl;have y:S62 G 215=some (Ac nI):=rfl;have b:S62 G 216=some (wQ V9):=rfl;have q:=Wt.start x v;unfold aIp;have n:=AN x.1;have d:=Wd w.a.pa c;generalize j:([109,47]++w.a.pa++[47]:Bs)=q1 at *;generalize ([100,47]++w.a.pa++[47]:Bs)=q2 at *;unfold HG at r;have y1:((1:Nat):Int)=1:=rfl;have y2:((2:Nat):Int)=2:=rfl;have cb:(0:Int)<=0:=ZW _;simp only[G7,↓C2,GY,simprocAttr,n,cb,QY,Qb,Qh,Ab s,d,Ab y,r,AG b];refine Aq q e (λM c1 p=>?_);simp only[↓C2,G8,simprocAttr];exact c1.endc x.2.2
def aRa(G:List D->Option D)(w:Wb)(o:Oc)(o2:Oc)(ho:o.nl=true->o.ops=[])(ab:Bool)(f:List Bs)(hp:w.a.pa.length<=1000000)(r:nI [.agg (HG w.k),.str ([109,47]++w.a.pa++[47])]=some (.tup [.slice ab [] (strsD f),.bool true]))(hl:f.length<=2000)(hs:∀s∈f,s.length<=1000000)(nn:Bool)(d:List Bs)(db:∀b,(b=true->B6 f=[])->G [.str w.a.pa,.slice b [] (strsD (B6 f))]=some (.slice nn [] (strsD d)))(va:d.length<=2000)(kb:nn=true->d=[])(ta:gG w o [.agg (Hy (.names nn (d.take 64)))]=some (.tup [],o2,none)):W62 G w o []=some (.tup [],o2,none):=by
 refine A8 ho ⟨Qa rfl,λh=>((E5 ta).2.1 rfl),λl h=>Xc,λi m fr t ha ca ia n0=>?_⟩;have ma:S62 G 213=some (Ac yX):=rfl;have ba:S62 G 215=some (Ac nI):=rfl;have eb:S62 G 22=some (Ac R38):=rfl;have fb:S62 G 217=some (Ac G):=rfl;have xa:S62 G 145=some (wQ gG):=rfl;have hW:=Wt.start ha ca;unfold aIp;have xx:=AN ha.1;have ua:=Wd w.a.pa hp;generalize wa:([109,47]++w.a.pa++[47]:Bs)=q1 at *;generalize ([100,47]++w.a.pa++[47]:Bs)=q2 at *;unfold HG at r;have y1:((1:Nat):Int)=1:=rfl;have y2:((2:Nat):Int)=2:=rfl;have cb:(0:Int)<=0:=ZW _;simp only[G7,↓C2,GY,simprocAttr,xx,cb,QY,Qb,Qh,Ab ma,ua,Ab ba,r,AS];refine Bv (n:=f.length) (I:=λj st=>st.s 33= .slice ab [] (strsD f)∧st.s 34= .int .i64 f.length∧st.s 35= .int .i64 (j:Int)∧st.s 0= .ptr i 0∧∃nl' t',st.s 5= .slice nl' t' (strsD (B6 (f.take j)))∧(nl'=true->B6 (f.take j)=[])∧Gx 9 fr st.m st.c nl' t'∧Wt i fr m o.nl t st.m w o t) (λj hj ih st g hI=>?_) (λst g hI=>?_) 0 (Qi _) _ _ ⟨rfl,rfl,rfl,rfl,true,[],rfl,λ_=>rfl,.inl ⟨rfl,rfl⟩,hW⟩
 ·obtain⟨ka,fa,da⟩:=st;obtain⟨z,sa,la,y,nl',t',h5,ra,hG,hw⟩:=hI;simp only at z sa la y h5 hG hw;refine Af lY.eq_1 ?_;have ea:((j:Int)<(f.length:Int))=True:=eq_true O;have oa:=nJ (j:=j);have na:IntKind.i64.wrap ((j:Int)+1)=((j+1:Nat):Int):=by rw[Hu O O];omega
  have ja:=DK (l:=f) (j:=j) hj;have u:=aRE f[j] (hs _ (QM hj));have aa:f.take (j+1)=f.take j++[f[j]]:=QT hj;have qa:(B6 (f.take j)).length<=j:=by
   have:=Q9 (λs=>if(DN s).2=0∧(DN s).1.1=1 then some (DN s).1.2.1 else none) (f.take j);rw[Q6]at this;unfold B6;omega
  have ga:=bY (f.take j) f[j];rw[←aa]at ga;generalize f[j]=x at *;generalize DN x=px at *;obtain⟨⟨kk,nm,vv⟩,e⟩:=px;simp only at ga u;unfold kyD at u;by_cases he:e=0
  ·subst he;by_cases hk:kk=1
   ·subst hk;simp only[and_self,if_true]at ga;simp only[G7,↓C2,GY,simprocAttr,z,sa,la,h5,ea,oa,Qn,ja,AS,Ab eb,u];have gb:=((hG.put (k:=da+1+3+5) (o:=0) (ds:=[.int .u8 0,.str [],.int .i64 0]) O).put (k:=da+1+3+5) (o:=0) (ds:=[.int .u8 1,.str nm,.int .i64 vv]) O).put (k:=da+1+3+8+7+3) (o:=0) (ds:=[.tok 10]) O;have ib:=((hw.put (q:=da+1+3+5) (p:=0) (ys:=[.int .u8 0,.str [],.int .i64 0])).put (q:=da+1+3+5) (p:=0) (ys:=[.int .u8 1,.str nm,.int .i64 vv])).put (q:=da+1+3+8+7+3) (p:=0) (ys:=[.tok 10]);refine As.intro ⟨O,rfl,gb.grow⟩ ?_;rw[B0 (λh=>by rw[ra h];rfl),NC];have bb:=ib.own (e:=9) (k:=da+1+3+8+7+4) (xs:=strsD (B6 (f.take j))) ca n0 gb;have jb:=Gx.app (e:=9) (fr:=fr) (m:=((fa.put ((da+1+3+5)::fr) 0 [D.int .u8 0,.str [],.int .i64 0]).put ((da+1+3+5)::fr) 0 [.int .u8 1,.str nm,.int .i64 vv]).put ((da+1+3+8+7+3)::fr) 0 [.tok 10]) (k:=da+1+3+8+7+4) (c':=da+1+3+8+7+5) (nl:=nl') (t:=t') (xs:=strsD (B6 (f.take j))) O;simp only[↓C2,G8,simprocAttr,la,na];exact ih _ _ ⟨z,sa,rfl,y,false,(da+1+3+8+7+4)::fr,(by rw[ga];show D.slice _ _ _=_;simp[strsD]),(λh=>Xc),jb.more (c':=da+1+3+8+7+6+2) O,bb⟩
   ·rw[if_neg (λh=>hk h.2),Zg]at ga;simp only[G7,↓C2,GY,simprocAttr,z,sa,la,ea,oa,Qn,ja,Ab eb,u,eq_false hk,na];exact ih _ _ ⟨z,sa,rfl,y,nl',t',by rw[ga];exact h5,by rw[ga];exact ra,hG.put.put.more Xa,hw.put.put⟩
  ·rw[if_neg (λh=>he h.1),Zg]at ga;simp only[G7,↓C2,GY,simprocAttr,z,sa,la,ea,oa,Qn,ja,Ab eb,u,eq_false he,na];exact ih _ _ ⟨z,sa,rfl,y,nl',t',by rw[ga];exact h5,by rw[ga];exact ra,hG.put.put.more Xa,hw.put.put⟩
 ·obtain⟨ka,fa,da⟩:=st;obtain⟨z,sa,la,y,nl',t',h5,ra,hG,hw⟩:=hI;simp only at z sa la y h5 hG hw;refine Af lY.eq_1 ?_;rw[Zs]at h5 ra;have za:=db nl' ra;have ya:Zq 64 (strsD d)=strsD (d.take 64):=(ZR ..).symm;have xx:=AN hw.at_.1;have hq:∃q:Int,min (d.length:Int) 64=q∧0<=q∧q<=(d.length:Int)∧q.toNat<=d.length∧Zq q.toNat (strsD d)=strsD (d.take 64):=by
   refine⟨_,rfl,O,O,O,?_⟩;rw[←ya];by_cases c:d.length<=64
   ·rw[Qt (by rw[AS];omega),Qt (by rw[AS];omega)]
   ·grind
  obtain⟨q,v,q0,hb,lb,q3⟩:=hq;have hd:aD (strsD d) 1=1:=by cases d<;>rfl
  simp only[Hy]at ta;simp only[↓C2,G_,GY,simprocAttr,y,sa,la,h5,Q8,xx.2.2.2.2.2.2.2.1,Ab fb,za,AS,v,q0,hb,hd,QZ,q3,AG xa];refine Aq hw ta (λM c1 c2=>?_);simp only[↓C2,G8,simprocAttr];exact c1.end0 ha.2.2
def DU(o:Oc)(l:List Bs):Oc:={o with nl:=o.nl&&l.isEmpty,ops:=o.ops++l.map λn=>(2,Aw 3 n 0,[])}
def aCz{o:Oc}{l:List Bs}{n:Bs}:(DU o l).op 2 (Aw 3 n 0) []=DU o (l++[n]):=by
 simp[DU,Oc.op]
def vW{o:Oc}:DU o []=o:=by simp[DU]
def uP(o:Oc)(nl:Bool)(k:List Tk)(gnl:Bool)(gone:List Bs):Oc:={DU (TF o nl k) gone with rep:=HD (.names gnl gone)}
def S61(G:List D->Option D):GZ:=Ao [(214,Ac G),(144,wQ OD),(211,Ac Fo),(210,wQ N6),(145,wQ gG)]
def W61(G:List D->Option D):Wb->Oc->List D->Option WY:=RW (S61 G) aIq [] 48
def aYo{G:List D->Option D}(h:Kq G 214):(wQ (W61 G)).ok Qd 151:=Dt (Ai func151:Fn Qd 151 48 aIq []) (Aa h (Aa Sz (Aa IL (Aa MJ (Aa kN Ad)))))
def aEC(G:List D->Option D)(w:Wb)(o:Oc)(u:Oc)(ol:Option (List Nat))(y:o.nl=true->o.ops=[])(s:Bool)(z:List Tk)(gnl:Bool)(gone:List Bs)(e:Int)(d:G [.agg [.slice w.v.nlt [] (AL w.v.ks)],.str w.a.ot]=some (.tup [.agg [.slice s [] (AL z)],.slice gnl [] (strsD gone),.int .i64 e]))(f:e≠0)(r:OD w o [.int .i64 e]=some (.tup [],u,ol)):W61 G w o []=some (.tup [],u,ol.map (·++[23])):=by
 refine A8 y ⟨Qa rfl,λh=>CH r h,λl h=>CG r h,λi m fr t x j ia n0=>?_⟩;have b:S61 G 214=some (Ac G):=rfl;have c:S61 G 144=some (wQ OD):=rfl;have k:=Wt.start x j;unfold aIq;have g:=AN x.1;simp only[G7,↓C2,GY,simprocAttr,g,Ab b,d];refine Ws ?_;simp only[↓C2,G_,GY,simprocAttr,eq_false f,AG c];refine Aq k.put.put r (λM c1 p=>?_);simp only[↓C2,G8,simprocAttr];exact c1.endc x.2.2
def aRb(G:List D->Option D)(w:Wb)(o:Oc)(ma:Bool)(k2:List Tk)(gnl:Bool)(gone:List Bs)(d:G [.agg [.slice w.v.nlt [] (AL w.v.ks)],.str w.a.ot]=some (.tup [.agg [.slice ma [] (AL k2)],.slice gnl [] (strsD gone),.int .i64 0]))(h0:iL o)(hg:gone≠[])(hl:gone.length<=900)(hs:∀s∈gone,s.length<=1000000)(wa:gnl=true->gone=[]):W61 G w o []=some (.tup [],uP o ma k2 gnl gone,some ([11,28+10*gone.length])):=by
 refine A8 (λ_=>h0.ops) ⟨Qa rfl,λh=>Xc,λl h=>(by simp only[Qv]at h;subst h;exact⟨by cases gone with|nil=>exact absurd rfl hg|cons a r=>simp[uP,DU],U⟩),λi m fr t ha ca ia n0=>?_⟩;have b:S61 G 214=some (Ac G):=rfl;have q:S61 G 211=some (Ac Fo):=rfl;have k:S61 G 210=some (wQ N6):=rfl;have xa:S61 G 145=some (wQ gG):=rfl;have hW:=Wt.start ha ca;unfold aIq;have xx:=AN ha.1;have ta:=I3 w (DU (TF o ma k2) gone) (.names gnl gone) (λh=>by
  simp only[DU,QB,ZM]at h;exact absurd h.2 hg) (by show gone.length<=1000;omega) wa
 simp only[Hy]at ta;have qa:(TF o ma k2).nl=o.nl∧(TF o ma k2).ops=[]:=⟨rfl,h0.ops⟩;simp only[G7,↓C2,GY,simprocAttr,xx,Ab b,d];refine Ws ?_;simp only[G7,↓C2,GY,simprocAttr,xx,n0,AS];refine Bv (n:=gone.length) (I:=λj x=>x.s 33= .slice gnl [] (strsD gone)∧x.s 34= .int .i64 gone.length∧x.s 35= .int .i64 (j:Int)∧x.s 0= .ptr i 0∧x.s 3= .slice gnl [] (strsD gone)∧x.c=31+10*j∧Wt i fr m o.nl t x.m w (DU (TF o ma k2) (gone.take j)) (if j=0 then t else [11,28+10*j]++fr)) (λj hj ih x g hI=>?_) (λx g hI=>?_) 0 (Qi _) _ _ ⟨rfl,rfl,rfl,rfl,rfl,rfl,?_⟩
 ·obtain⟨ka,fa,da⟩:=x;obtain⟨z,sa,la,y,h3,hc,hw⟩:=hI;simp only at z sa la y h3 hc hw;refine Af lZ.eq_1 ?_;have u:((j:Int)<(gone.length:Int))=True:=eq_true O;have oa:=nJ (j:=j);have ja:=DK (l:=gone) (j:=j) hj;have na:IntKind.i64.wrap ((j:Int)+1)=((j+1:Nat):Int):=by rw[Hu O O];omega
  have ba:=C7 3 0 gone[j] (hs _ (QM hj));have ua:(DU (TF o ma k2) (gone.take j)).nl=true->(DU (TF o ma k2) (gone.take j)).ops=[]:=λh=>by
   simp only[DU,QB,ZM]at h ⊢;rw[qa.2,h.2];rfl
  have f:(DU (TF o ma k2) (gone.take j)).ops.length<=1000:=by simp[DU,qa.2];omega
  have ra:=DY w (DU (TF o ma k2) (gone.take j)) 2 (Aw 3 gone[j] 0) [] ua f;rw[aCz,←QT hj]at ra;simp only[↓C2,G_,GY,simprocAttr,y,z,sa,la,u,oa,Qn,ja,Ab q,ba,AG k];refine Aq hw ra (λM c1 c2=>?_);have e:MC (if j=0 then t else [11,28+10*j]++fr) ((da+1+3+3)::fr) (some [11])=(if j+1=0 then t else [11,28+10*(j+1)]++fr):=by
   rw[if_neg (Qp j)];show [11]++_::fr=_;rw[show da+1+3+3=28+10*(j+1)by omega];rfl
  rw[e]at c1;simp only[↓C2,G8,simprocAttr,la,na];exact ih _ _ ⟨z,sa,rfl,y,h3,Xa,c1⟩
 ·obtain⟨ka,fa,da⟩:=x;obtain⟨z,sa,la,y,h3,hc,hw⟩:=hI;simp only at z sa la y h3 hc hw;refine Af lZ.eq_1 ?_;have ga:gone.length≠0:=λh=>hg (Zt.1 h)
  rw[Zs,if_neg ga]at hw;simp only[↓C2,G_,GY,simprocAttr,y,sa,la,h3,Q8,AG xa];refine Aq hw ta (λM c1 c2=>?_);simp only[↓C2,G8,simprocAttr];exact c1.endl (l:=[11,28+10*gone.length]) U
 ·simp only[Q4,vW,if_true];exact(hW.put.put.cellp (p:=29) (ys:=[.slice ma [] (AL k2)]) (o':=TF o ma k2) (Qa rfl) rfl rfl rfl)
def rP(w r:List D->Option D):GZ:=Ao [(143,Ac zW),(144,wQ OD),(145,wQ gG),(146,wQ zU),(147,wQ W57),(148,wQ W58),(149,wQ W59),(150,wQ W60),(151,wQ (W61 w)),(152,wQ (W62 r)),(153,wQ Wv),(154,wQ Ue)]
def R19(w r:List D->Option D):List D->Option D:=RF (rP w r) aIv [.cell (some 9) 6] 88
def aYx{w r:List D->Option D}(u:Kq w 214)(f:Kq r 217):(Ac (R19 w r)).ok Qd 87:=Am (Ai func87:Fn Qd 87 88 aIv [.cell (some 9) 6]) (Aa aX6 (Aa Sz (Aa kN (Aa kM (Aa aYs (Aa aYr (Aa aYq (Aa aYp (Aa (aYo u) (Aa (aYn f) (Aa aYm (Aa aYl Ad))))))))))))
def Hd(v:Vw):Oc:=⟨[],false,[],true,[],v⟩
def LR(o:Oc):List D:=[.str o.need,.bool o.li,.str o.rep,.slice o.nl [] (Ek o.ops)]++HN o.vw
def aOS{m:G6}{i:Id}{w:Wb}{o o':Oc}{k:Nat}{d:D}{ol:Option (List Nat)}(y:o.nl=true)(hi:∀l,i≠l++[k]):Ag (Ha.app m (WG i w o [] [k] (d,o',ol))) i 0 30=some (H1 w o' (MC [] [k] ol)):=by
 cases ol with
 |none=>exact Hs (CW _ _ _)
 |some l=>
  show Ag _ i 0 30=some (H1 w o' (l++[k]));rw[←Hs (m:=m) (i:=i) (CW w o' (l++[k]))];refine BH (λq s=>?_);have j:q.1=i:=EH s;show Ha.app (m.put i 0 (H1 w o' (l++[k]))) (Be 167 (l++[k]) (.slice o.nl [] (Ek o.ops))) q.1 q.2=_;rw[GA,j,if_neg (λe=>hi l e.1),if_neg (λe=>by rw[y]at e;cases e.1)]
def aGF{m:G6}{i j:Id}{w:Wb}{o o':Oc}{k x:Nat}{d:D}{ol:Option (List Nat)}(y:o.nl=true)(hi:∀l,j≠l++[k])(r:j≠i):Ha.app m (WG i w o [] [k] (d,o',ol)) j x=m j x:=by
 cases ol with
 |none=>exact aA r
 |some l=>
  show Ha.app (m.put i 0 (H1 w o' (l++[k]))) (Be 167 (l++[k]) (.slice o.nl [] (Ek o.ops))) j x=_;rw[GA,if_neg (λe=>hi l e.1),if_neg (λe=>by rw[y]at e;cases e.1),aA r]
def U7{a k:Nat}(h:a≠k):∀l:List Nat,([a]:Id)≠l++[k]:=λl e=>h (by have:=congrArg ZS e;simpa using this)
def qA{i:Id}{m:G6}{w:Wb}{o o':Oc}{r:List D}{d:D}{ol:Option (List Nat)}{F:Wb->Oc->List D->Option WY}{S:GZ}{c k n:Nat}{ops l:List DOper}{s:Nat->D}{b:Option Nat}{K:Nat->(Nat->D)->G6->Prop}{g}
  (z:F w o r=some (d,o',ol)) (p:VZ m i (w,o,[])) (y:o.nl=true) (hi:∀l,i≠l++[n])
  (h:∀M,Ag M i 0 30=some (H1 w o' (MC [] [n] ol))->(∀j x,(∀l,j≠l++[n])->j≠i->M j x=m j x)->F6 S [] c ops l k (CL s b d) M K):
  Hm ((wQ F).ex (.ptr i 0::r) m [n]) (λx=>W3 S [] c ops l k s b m K x.1 x.2) g:=
 pZ p z (h _ (aOS y hi) (λ_ _ u f=>aGF y u f))
inductive MO (G1 G2:List D->Option D) (v:Vw):Int->Oc->List D->(Wb->Oc->List D->Option WY)->Prop
 |o1:MO G1 G2 v 1 (Hd v) [.agg (Hy (.state v.se))] gG
 |o2:MO G1 G2 v 2 {Hd v with vw:={v with se:=false}} [] zU
 |o3:MO G1 G2 v 3 {Hd v with vw:={v with se:=true}} [] zU
 |o4:MO G1 G2 v 4 (Hd v) [] W57
 |o5:MO G1 G2 v 5 (Hd v) [] W58
 |o6:MO G1 G2 v 6 (Hd v) [] W59
 |o7:MO G1 G2 v 7 (Hd v) [] W60
 |o8:MO G1 G2 v 8 (Hd v) [] (W61 G1)
 |o17:MO G1 G2 v 17 (Hd v) [] (W62 G2)
 |o9:MO G1 G2 v 9 (Hd v) [] Wv
 |o18:MO G1 G2 v 18 (Hd v) [] Wv
 |o10:MO G1 G2 v 10 (Hd v) [] Ue
 |o11:MO G1 G2 v 11 (Hd v) [] Ue
 |o12:MO G1 G2 v 12 (Hd v) [] Ue
 |o13:MO G1 G2 v 13 (Hd v) [] Ue
 |o14:MO G1 G2 v 14 (Hd v) [] Ue
 |o15:MO G1 G2 v 15 (Hd v) [] Ue
 |o16:MO G1 G2 v 16 (Hd v) [] Ue
def BM{w G2:List D->Option D}{v:Vw}{op:Int}{oc:Oc}{r:List D}{W:Wb->Oc->List D->Option WY}(hM:MO w G2 v op oc r W)(a:Ak)(k:Kn)(q:a.op=op)(ia:zW [H4 v,Hv a]=some (.int .i64 0))(u:Oc)(ol:Option (List Nat))(hm:W ⟨v,a,k⟩ oc r=some (.tup [],u,ol)):R19 w G2 [H4 v,Hv a,.agg (HG k)]=some (.agg (LR u)):=by
 refine Al (Qa rfl) ?_;have b:rP w G2 143=some (Ac zW):=rfl;have s:rP w G2 145=some (wQ gG):=rfl;have j:rP w G2 146=some (wQ zU):=rfl;have m:rP w G2 147=some (wQ W57):=rfl;have e:rP w G2 148=some (wQ W58):=rfl;have l:rP w G2 149=some (wQ W59):=rfl;have o:rP w G2 150=some (wQ W60):=rfl;have i:rP w G2 151=some (wQ (W61 w)):=rfl;have g:rP w G2 152=some (wQ (W62 G2)):=rfl;have c:rP w G2 153=some (wQ Wv):=rfl;have h:rP w G2 154=some (wQ Ue):=rfl;unfold aIv;obtain⟨op,tk,pa,ot,n,cas,fl,d,ns,y,f,rs,z⟩:=a;simp only at q;subst q;unfold H4 Hv at *;unfold HN Hq HG at *;cases hM<;>simp only[G7,↓C2,GY,simprocAttr,Ab b,ia,AG s,AG j,AG m,AG e,AG l,AG o,AG i,AG g,AG c,AG h]
 all_goals
  refine qA hm ⟨by first|exact Hs rfl|exact(jJ (show Ag _ [10] 0 30=some (H1 ⟨v,⟨_,tk,pa,ot,n,cas,fl,d,ns,y,f,rs,z⟩,k⟩ (Hd v) [])from Hs rfl) (Qa rfl)).trans rfl,rfl,λ_=>rfl⟩ rfl (U7 V) (λM c1 p=>?_);have xx:=AN c1;have t:∀x,M [3] x=_:=λx=>p [3] x (U7 V) V
  simp only[G7,↓C2,GY,simprocAttr,xx,t]
  all_goals exact Y0
def aEX(w r:List D->Option D)(v:Vw)(a:Ak)(k:Kn)(e:Int)(s:e≠0)(ia:zW [H4 v,Hv a]=some (.int .i64 e))(u:Oc)(ol:Option (List Nat))(j:OD ⟨v,a,k⟩ (Hd v) [.int .i64 e]=some (.tup [],u,ol)):R19 w r [H4 v,Hv a,.agg (HG k)]=some (.agg (LR u)):=by
 refine Al (Qa rfl) ?_;have b:rP w r 143=some (Ac zW):=rfl;have c:rP w r 144=some (wQ OD):=rfl;unfold aIv;obtain⟨op,m,o,q,n,cas,i,d,ns,y,f,rs,z⟩:=a;unfold H4 Hv at *;unfold HN Hq HG at *;simp only[G7,↓C2,GY,simprocAttr,Ab b,ia,eq_false s,AG c];refine qA j ⟨Hs rfl,rfl,λ_=>rfl⟩ rfl (U7 V) (λM c1 p=>?_);have g:=AN c1;have t:∀x,M [3] x=_:=λx=>p [3] x (U7 V) V
 simp only[G7,↓C2,GY,simprocAttr,g,t]
 all_goals exact Y0
def Cb(l:List Tk)(s:Bs):List Bs:=(l.filter λt=>decide (t.2.1=s)&&decide (t.1≠s)).map (·.1)
def Eb(l:List Tk):Nat->Bs->List Bs
 |0,s=>[s]
 |f+1,s=>s::(Cb l s).flatMap (Eb l f)
structure HZ (l:List Tk) (r:Bs->Nat):Prop where
 up:∀t∈l,r t.2.1<r t.1
 top:∀t∈l,r t.1<=l.length
 one:l.Pairwise λt u=>t.1≠u.1
def HZ.eq{l:List Tk}{r:Bs->Nat}(h:HZ l r){t u:Tk}(n:t∈l)(z:u∈l)(e:t.1=u.1):t=u:=by
 have q:=h.one;clear h;induction l with
 |nil=>cases n
 |cons a l ih=>
  rw[QN]at q;rcases Qr.1 n with ht'|ht'
  ·grind
  ·grind
inductive H8 (l:List Tk) (s:Bs):Bs->Prop
 |refl:H8 l s s
 |step (t:Tk):t∈l->H8 l s t.2.1->H8 l s t.1
def H8.trans{l:List Tk}{a b c:Bs}(h:H8 l a b)(k:H8 l b c):H8 l a c:=by
 induction k with
 |refl=>exact h
 |step t u _ ih=>exact .step t u ih
def Vo{l:List Tk}{s c:Bs}(h:c∈Cb l s):∃t∈l,t.2.1=s∧t.1=c∧c≠s:=by
 grind [Cb]
def Lr{l:List Tk}:∀(f:Nat)(s x:Bs),x∈Eb l f s->H8 l s x
 |0,s,x,h=>by
  rw[Eb,Zj]at h;subst h;exact .refl
 |f+1,s,x,h=>by
  rw[Eb]at h;rcases Qr.1 h with rfl|h
  ·exact .refl
  ·obtain⟨c,w,q⟩:=Zu.1 h;obtain⟨t,u,rfl,rfl,_⟩:=Vo w;exact(H8.step t u .refl).trans (Lr f _ x q)
section
variable{l:List Tk}{r:Bs->Nat}(T:HZ l r)
include T
def fY{s x:Bs}(h:H8 l s x):r s<=r x:=by
 induction h with
 |refl=>exact Qg _
 |step t u _ ih=>exact QF ih (Nat.le_of_lt (T.up t u))
def aEl{a b x:Bs}(h:H8 l a x)(k:H8 l b x):H8 l a b∨H8 l b a:=by
 induction h with
 |refl=>exact .inr k
 |step t n q ih=>
  generalize e:t.1=y at k;cases k with
  |refl=>subst e;exact .inl (.step t n q)
  |step u z m=>
   have:=T.eq n z e;subst this;exact ih m
def IM{s c:Bs}(h:c∈Cb l s):r s<r c∧r c<=l.length:=by
 obtain⟨t,u,rfl,rfl,_⟩:=Vo h;exact⟨T.up t u,T.top t u⟩
theorem pT{s a b:Bs}(x:a∈Cb l s)(m:b∈Cb l s)(h:H8 l a b):a=b:=by
 have q:=(IM T x).1;obtain⟨u,z,c,rfl,_⟩:=Vo m;generalize e:u.1=y at h;cases h with
 |refl=>rfl
 |step t n f=>
  have:=T.eq n z e.symm;subst this;have:=fY T f;rw[c]at this;omega
def kS(s:Bs):(Cb l s).Nodup:=by
 unfold Cb;have h:=(T.one.filter (λt=>decide (t.2.1=s)&&decide (t.1≠s)));rw[QO];exact List.pairwise_map.2 h
def T_:∀(f:Nat)(s:Bs),(Eb l f s).Nodup
 |0,s=>by simp[Eb]
 |f+1,s=>by
  rw[Eb,ZO];refine⟨λh=>?_,?_⟩
  ·obtain⟨c,w,q⟩:=Zu.1 h;have:=fY T (Lr f c s q);have:=(IM T w).1;omega
  ·rw[QO,List.pairwise_flatMap];refine⟨λc _=>QO.1 (T_ f c),?_⟩;have n:=QO.1 (kS T s);refine List.Pairwise.imp_of_mem ?_ n;intro a b p m o x q y j e;subst e;rcases aEl T (Lr f a x q) (Lr f b x j)with h|h
   ·grind [pT]
   ·grind [pT]
omit T in
def qM{f:Nat}{s x:Bs}(h:x∈Eb l f s):x∈s::l.map (·.1):=by
 have:=Lr f s x h;cases this with
 |refl=>exact Qq ..
 |step t u _=>exact QG _ (Qw.2 ⟨t,u,rfl⟩)
omit T in
def Tu:∀(a b:List Bs),a.Nodup->(∀x∈a,x∈b)->a.length<=b.length
 |[],b,_,_=>Qi _
 |x::a,b,h,k=>by
  rw[ZO]at h;have q:=k x (Qq ..);have:=Tu a (b.erase x) h.2 (λy j=>by
   have c:=k y (QG _ j);exact(List.mem_erase_of_ne (λ(e:y=x)=>h.1 (by rw[←e];exact j))).2 c)
  rw[List.length_erase_of_mem q]at this;have u:0<b.length:=List.length_pos_of_mem q;rw[Qb];omega
def qN(f:Nat)(s:Bs):(Eb l f s).length<=l.length+1:=by
 have:=Tu _ _ (T_ T f s) (λx q=>qM q);simpa using this
end
end Go.Vd
namespace Go.Proofs
open Go.Shelf
def aZ:Go.Shelf.Ren:=⟨λ|190=>268|125=>252|258=>311|128=>304|129=>305|302=>333|303=>334|304=>335|305=>336|306=>337|307=>338|308=>339|309=>340|310=>341|333=>345|329=>325|330=>326|334=>346|335=>347|336=>113|344=>348|n=>n,λ|31=>23|9=>9|3=>3|46=>109|0=>0|51=>268|53=>185|4=>4|183=>347|182=>346|131=>103|5=>5|218=>375|222=>379|228=>389|229=>390|n=>n,λ|n=>n⟩
def aT:Go.Proofs.Lays.n190 Qd aZ:={
 mixed:=Z
 f125:=func252.trans (congrArg some Z)
 f128:=func304.trans (congrArg some Z)
 f129:=func305.trans (congrArg some Z)
 f190:=func268.trans (congrArg some Z)
 f258:=func311.trans (congrArg some Z)
 f302:=func333.trans (congrArg some Z)
 f303:=func334.trans (congrArg some Z)
 f304:=func335.trans (congrArg some Z)
 f305:=func336.trans (congrArg some Z)
 f306:=func337.trans (congrArg some Z)
 f307:=func338.trans (congrArg some Z)
 f308:=func339.trans (congrArg some Z)
 f309:=func340.trans (congrArg some Z)
 f310:=func341.trans (congrArg some Z)
 f329:=func325.trans (congrArg some Z)
 f330:=func326.trans (congrArg some Z)
 f333:=func345.trans (congrArg some Z)
 f334:=func346.trans (congrArg some Z)
 f335:=func347.trans (congrArg some Z)
 f336:=func113.trans (congrArg some Z)
 f344:=func348.trans (congrArg some Z)
 t0:=underlying0
 a0:=isAgg0
 z0:=sizeOf0
 v0:=zeroValue0
 t3:=underlying3
 a3:=isAgg3
 z3:=sizeOf3
 v3:=zeroValue3
 t4:=underlying4
 a4:=isAgg4
 z4:=sizeOf4
 v4:=zeroValue4
 t5:=underlying5
 a5:=isAgg5
 z5:=sizeOf5
 v5:=zeroValue5
 t9:=underlying9
 a9:=isAgg9
 z9:=sizeOf9
 v9:=zeroValue9
 t31:=underlying23
 a31:=isAgg23
 z31:=sizeOf23
 v31:=zeroValue23
 t46:=underlying109
 a46:=isAgg109
 z46:=sizeOf109
 v46:=zeroValue109
 t51:=underlying268
 a51:=isAgg268
 z51:=sizeOf268
 v51:=zeroValue268
 t53:=underlying185
 a53:=isAgg185
 z53:=sizeOf185
 v53:=zeroValue185
 t131:=underlying103
 a131:=isAgg103
 z131:=sizeOf103
 v131:=zeroValue103
 t182:=underlying346
 a182:=isAgg346
 z182:=sizeOf346
 v182:=zeroValue346
 t183:=underlying347
 a183:=isAgg347
 z183:=sizeOf347
 v183:=zeroValue347
 t218:=underlying375
 a218:=isAgg375
 z218:=sizeOf375
 v218:=zeroValue375
 t222:=underlying379
 a222:=isAgg379
 z222:=sizeOf379
 v222:=zeroValue379
 t228:=underlying389
 a228:=isAgg389
 z228:=sizeOf389
 v228:=zeroValue389
 t229:=underlying390
 a229:=isAgg390
 z229:=sizeOf390
 v229:=zeroValue390}
def bA:Go.Shelf.Ren:=⟨λ|194=>272|n=>n,λ|31=>23|9=>9|3=>3|4=>4|0=>0|n=>n,λ|n=>n⟩
def aY:Go.Proofs.Lays.n194 Qd bA:={
 mixed:=Z
 f194:=func272.trans (congrArg some Z)
 t0:=underlying0
 a0:=isAgg0
 z0:=sizeOf0
 v0:=zeroValue0
 t3:=underlying3
 a3:=isAgg3
 z3:=sizeOf3
 v3:=zeroValue3
 t4:=underlying4
 a4:=isAgg4
 z4:=sizeOf4
 v4:=zeroValue4
 t9:=underlying9
 a9:=isAgg9
 z9:=sizeOf9
 v9:=zeroValue9
 t31:=underlying23
 a31:=isAgg23
 z31:=sizeOf23
 v31:=zeroValue23}
end Go.Proofs
namespace Go.Vd
open Go.Proofs Go.RowKit
def Gh.base(G:Nat->Nat):Gh:={G:=G,G0:=G,dl:=λ_=>none,tb:=λ_=>none}
theorem Gg {P : Program} {f : FuncId} {F : List D → Option D} (ua : ∃ fn, P.funcs[f]? = some fn ∧ fn.body.isSome = true ∧ (fn.name == "runtime.NumGoroutine") = false)
  (h : ∀ ds r, F ds = some r → ∀ (vs : List Value) (w : World) (G : Nat → Nat), vs.length = ds.length → (∀ (j : Nat) d v, ds[j]? = some d → vs[j]? = some v → Rep w (Gh.base G) d v) → (∀ b, w.heap.size ≤ b → G b = 0) →
   r.calmR = true ∧ Calls P f vs.toArray w fun e k => ∃ v G', e = .returned v ∧ Below w.heap.size w k ∧ (∀ b, k.heap.size ≤ b → G' b = 0) ∧ (∀ b, b < w.heap.size → G' b = G b) ∧ Rep k (Gh.base G') r v) : (Ac F).ok P f := by
 refine ⟨ua, fun ds m m' fr _ => rfl, ?_⟩
 intro B w0 w m g fr ds vs r u hi o hl y z
 simp only [Ac] at z
 split at z
 ·rename_i ia
  rw [Qy] at z
  obtain ⟨r', x, z⟩ := z
  simp only [QV] at z
  obtain ⟨rfl, rfl⟩ := z
  have n : ∀ (j : Nat) d v, (ds.map D.un)[j]? = some d → vs[j]? = some v → Rep w (Gh.base g.G) d v := by
   intro j d v p hv
   have s := Zd.1 ia d (QU p)
   rw [Zb, Qy] at p
   obtain ⟨d', na, rfl⟩ := p
   exact (y j d' v na hv).un.calm_to s (fun _ _ => rfl) (fun _ => Qg _)
  obtain ⟨q, s⟩ := h _ _ x vs w g.G (by rw [QI]; exact hl) n hi.gz
  refine s.mono ?_
  rintro e k ⟨v, G', rfl, t, hz, ho, c⟩
  have a : ∀ b, (g.glue w G').G b = G' b := by
   grind [Gh.glue]
  refine ⟨v, g.glue w G', rfl, hi.glue t hz, Ht.glue hi.gz t, ?_, fun i hf _ => hf⟩
  exact c.calmR_to q (fun _ _ => rfl) (fun b => by rw [a]; exact Qg _)
 ·cases z
def El{P:Program}{f:FuncId}{F:List D->Option D}(k:(Ac F).ok P f){ds:List D}{r:D}(a:F ds=some r)(ia:ds.all D.calm=true)(y:ds.map D.un=ds){vs:List Value}{w:World}{G:Nat->Nat}
  (hl:vs.length=ds.length) (c:∀(j:Nat) d v,ds[j]?=some d->vs[j]?=some v->Rep w (Gh.base G) d v) (n:∀b,w.heap.size<=b->G b=0):
  Calls P f vs.toArray w λe t=>∃v q,e= .returned v∧Below w.heap.size w t∧Rep t q r v:=by
 have g:He P w.heap.size w (λ_ _=>none) w (Gh.base G):=
  ⟨Below.refl _ _,Qg _,n,λ_ _=>rfl,λi b h=>XB,λi i' b h=>XB,λi o d h=>Xd,λi e h=>Xd,λi i' e e' b x x' h=>Xd,λi s p h=>Xd,λi i' s p m p' b x x' h=>Xd⟩
 refine(k.run (fr:=[0]) (ds:=ds) (r:=r) (u:=[]) g (λi _=>⟨λ_=>rfl,rfl,rfl⟩) hl c ?_).mono ?_
 ·grind [Ac]
 ·rintro e t ⟨v,q,rfl,z⟩;exact⟨v,q,rfl,z.inv.below,z.rep⟩
def Iz{P:Program}{f:FuncId}{F:List D->Option D}(x:(Ac F).ok P f){ds:List D}{r:D}(z:F ds=some r)(c:ds.all (λd=>match d with| .str _| .int _ _| .bool _=>true|_=>false)=true)(w:World):
  Calls P f (ds.map plV).toArray w λe t=>∃v q,e= .returned v∧Below w.heap.size w t∧Rep t q r v:=by
 have u:∀d∈ds,d.calm=true∧d.un=d∧∀w g,Rep w g d (plV d):=by
  intro d p;have:=Zd.1 c d p;cases d with
  |str s=>exact⟨rfl,rfl,λw g=> .str s⟩
  |int k n=>exact⟨rfl,rfl,λw g=> .int k n⟩
  |bool b=>exact⟨rfl,rfl,λw g=> .bool b⟩
  |_=>cases this
 refine El x z (Zd.2 λd p=>(u d p).1) ?_ (G:=λ_=>0) U (λj d v p y=>?_) (λ_ _=>rfl)
 ·conv=>rhs;rw[←List.map_id ds]
  exact List.map_congr_left λd p=>(u d p).2.1
 ·grind
def GP:∀l:List Bs,flat (strsD l)=strsD l
 |[]=>rfl
 |s::l=>by
  show(D.str s).cells++flat (strsD l)=_;rw[GP l];rfl
def iY{w:World}{g:Gh}{nl:Bool}{t:Id}{l:List Bs}{v:Value}(h:Rep w g (.slice nl t (strsD l)) v):
  ∃i c,v= .slice i l.length c∧∀j s,l[j]?=some s->∃a,i=some a∧w.cell? (a.add j)=some (encStr s):=by
 rcases h.slice_inv with ⟨_,z,rfl⟩|⟨_,ad,n,c,sz,e,rfl,o,m,q,p,k,b,f,r8,y⟩
 ·have:l=[]:=by cases l with|nil=>rfl|cons=>cases z
  subst this;exact⟨none,0,rfl,λj s h=>Xd⟩
 ·rw[AS]at o;subst o;refine⟨some ad,c,rfl,λj s d=>⟨ad,rfl,?_⟩⟩;have u:j<l.length:=(Qz.1 d).1;have x:sz=1:=(q (.str s) (Qw.2 ⟨s,QU d,rfl⟩)).symm;subst x;have r:=b j (.str s) (by rw[GP];simp[strsD,d]);rw[p j O];cases hv:e j<;>rw[hv]at r<;>cases r;rfl
def My{w:World}{B e n b c:Nat}{ys:List Bs}{g:Gh}(h:w.ownsRow B e 1 (.slice (some ⟨b,0,none⟩) n c) n (ys.map encStr))(k:n<=g.G b):Rep w g (.slice false [] (strsD ys)) (.slice (some ⟨b,0,none⟩) n c):=by
 have o:ys.length=n:=by simpa using h.1
 have i:n<=c:=by
  rcases h.2 with ⟨t,_⟩|⟨q,cap,cur,y,_,_,f,_⟩
  ·cases t
  ·cases y;exact f
 refine .slice [] _ ⟨b,0,none⟩ n c 1 (λj=>encStr (ys.getD j [])) (by rw[AS,o]) i (λd p=>?_) (λj r=>?_) (λj r=>rfl) (λj d p=>?_) (λ_=>Xa) (λh=>absurd rfl h) (λd p=>?_)
 ·obtain⟨s,_,rfl⟩:=Qw.1 p;rfl
 ·have x:j<ys.length:=by omega
  exact h.cells rfl j _ (by simp[QC,x])
 ·rw[GP]at p;simp only[strsD,Zb,Qy]at p;obtain⟨s,z,rfl⟩:=p;have:ys.getD j []=s:=by simp[QC,z]
  rw[this];exact .str s
 ·obtain⟨s,_,rfl⟩:=Qw.1 p;rfl
end Go.Vd
namespace Go.Vd
open Go.Proofs Go.RowKit Go.Sort Go.Shelf
def Gk(z:Bs)(l:List Bs):List Bs:=l.filterMap λs=>if(Cq s z).2=true then some (Cq s z).1 else none
def TG(z s:Bs)(l:List Bs):Gk z (s::l)=if(Cq s z).2=true then(Cq s z).1::Gk z l else Gk z l:=by
 grind [Gk]
def aOv(w:World)(n:List Bs)(e:Ending)(t:World):Prop:=
 ∃v,e= .returned v∧Below w.heap.size w t∧((v= .slice none 0 0∧n=[])∨(n≠[]∧∃g cap,v= .slice (some ⟨g,0,none⟩) (Lib.compact (n.mergeSort λx y=>decide (x<=y))).length cap∧w.heap.size<=g∧g<t.heap.size∧
  t.ownsRow w.heap.size 9 1 v (Lib.compact (n.mergeSort λx y=>decide (x<=y))).length ((Lib.compact (n.mergeSort λx y=>decide (x<=y))).map encStr)))
def aBU{w b:World}{g cap n nn q:Nat}{os:Array Obj}{ss:List (List UInt8)}(v:b.ownsRow w.heap.size 9 1 (.slice (some ⟨g,0,none⟩) n cap) n (ss.map encStr))(a:Below w.heap.size w b)(u:w.heap.size<=g)(r:ss.length=n)(p:ss≠[]):
  aOv w ss (.returned (.slice (some ⟨g,0,none⟩) (Lib.compact (ss.mergeSort λx y=>decide (x<=y))).length cap))
   (putRow encStr (Sort.ahead (grow (putRow encStr (Sort.ahead b nn) g 0 (ss.mergeSort λx y=>decide (x<=y)).toArray) os) q) g 0 (Lib.compact (ss.mergeSort λx y=>decide (x<=y))++ZC (n-(Lib.compact (ss.mergeSort λx y=>decide (x<=y))).length) []).toArray):=by
 have o:(ss.mergeSort λx y=>decide (x<=y)).length=ss.length:=Qu ss;have qa:=Lib.compact_length_le (ss.mergeSort λx y=>decide (x<=y));subst r;rcases v.2 with ⟨t,_⟩|⟨g',m,cur,i,c,z,h1,f,h3,e⟩
 ·cases t
 cases i;have hs:=ownsRow_sorted (n:=nn) (os:=os) (ts:=ss.mergeSort λx y=>decide (x<=y)) o c z h1 f h3;have s:=Lib.ownsRow_putRow (q:=q) (k:=(Lib.compact (ss.mergeSort λx y=>decide (x<=y))).length) (ys:=Lib.compact (ss.mergeSort λx y=>decide (x<=y))++ZC (ss.length-(Lib.compact (ss.mergeSort λx y=>decide (x<=y))).length) []) hs Xb O;rw[List.take_left]at s;exact⟨_,rfl,Lib.below_putRow (a.grown (grownBy_sorted _) a.size (λj d=>by cases d;exact c)) u,.inr ⟨p,g,cap,rfl,u,(s.lt g rfl).2,s⟩⟩
def kZ:(Tryz.prog.info? 9).map (λi=>(i.zero,i.size,i.bytes))=some (some (.string ByteArray.empty),1,16):=Z
def jQ(v:Value):v.ownBlock=none∨v.ownBlock≠none:=Classical.em _
def Cc{B:Nat}{w t:World}(h:Below B w t)(d:w.heap.size<=B)(row:Option Nat)(j:w.heap.size<=t.heap.size):w.grownBy t row:=⟨h.os,h.tape,h.output,j,λk o _=>h.block k O⟩
def EZ{w r:World}{a:Addr}{v:Value}(m:Below w.heap.size w r)(h:w.cell? a=some v):r.cell? a=some v:=(m.cell (World.block_lt_of_cell? _ _ h)).trans h
def lM{α:Type}{l:List α}{j:Nat}{x:α}(h:l[j]?=some x):l.drop j=x::l.drop (j+1):=by
 obtain⟨u,rfl⟩:=Qz.1 h;exact Zm u
def aXF(w:World)(aa:Bs)(l:List Bs)(ao:Option Addr)(c:Nat)(hl:l.length<=2000)
  (ha:∀j s,l[j]?=some s->∃a,ao=some a∧w.cell? (a.add j)=some (encStr s))
  (r:∀s∈l,∀w,Calls Qd 271 #[encStr s,encStr aa] w λe w'=>e= .returned (.tuple #[encStr (Cq s aa).1,.bool (Cq s aa).2])∧Below w.heap.size w w'):
  Calls Qd 217 #[encStr aa,.slice ao l.length c] w (aOv w (Gk aa l)):=by
 obtain⟨i0,hi,hx⟩:=Qy.1 kZ;simp only[QV]at hx;obtain⟨ka,ra,xa⟩:=hx;have HC:Aside (∀j s,l[j]?=some s->∃a,ao=some a∧w.cell? (a.add j)=some (encStr s)):=ha;have H2:Aside (∀s∈l,∀w,Calls Qd 271 #[encStr s,encStr aa] w λe w'=>e= .returned (.tuple #[encStr (Cq s aa).1,.bool (Cq s aa).2])∧Below w.heap.size w w'):=r;clear ha r;generalize ma:encStr aa=vt at *;generalize hn:l.length=n at *
 go_enter func217,ntmps217
 go_wp2_with fail
 go_loopg [5,12] n (λg s5 wa wx=>∃(k:Nat)(ks:List Bs),k+g=n∧wa= .int .i64 k∧Aside (ks++Gk aa (l.drop k)=Gk aa l)∧ks.length<=k∧
  wx.ownsRow w.heap.size 9 1 s5 ks.length (ks.map encStr)∧Aside (s5= .slice none 0 0↔ks=[])∧Below w.heap.size w wx)
 case atStart=>exact⟨0,[],O,rfl,rfl,Qg _,World.ownsRow_nil _ _ _ _,ZY (λ_=>rfl) (λ_=>rfl),Below.refl _ _⟩
 case round=>
  obtain⟨k,ks,sa,rfl,HI,na,ca,va,fa⟩:=hrel;cases gk with
  |zero=>
   have oa:¬((k:Int)<(n:Int)):=O
   have HK:Aside (ks=Gk aa l):=by
    have:=HI.out;rw[Q_ O]at this;show ks=_;simpa[Gk]using this
   by_cases qa:ks=[]
   ·subst qa;have e0:u5= .slice none 0 0:=va.out.2 rfl;subst e0;clear va
    go_wp2_with (first
     |(go_at_call 268;refine(Any.slices_Sort_string_none aT none 0 _).mono ?_;rintro e w2 ⟨rfl,rfl⟩)
     |(go_at_call 272;refine(Any.slices_Compact_string_empty aY none 0 _).mono ?_;rintro e w3 ⟨rfl,rfl⟩))
    go_ret
    exact⟨_,rfl,fa,.inl ⟨rfl,HK.out.symm⟩⟩
   ·have z:u5≠ .slice none 0 0:=λe=>qa (va.out.1 e)
    obtain⟨g0,h,rfl,u,ta,ea,fb,ba,hH⟩:=Lib.holds_of_ownsRow ca z;have m:Calls Qd 268 #[.slice (some ⟨g0,0,none⟩) ks.length h] wr λe w'=>e= .returned (.tuple #[])∧∃n os,w'=grow (putRow encStr (Sort.ahead wr n) g0 0 (ks.mergeSort λx y=>decide (x<=y)).toArray) os:=Any.slices_Sort_string aT g0 0 h ks wr hH ta O
    have o:∀nn os,Calls Qd 272 #[.slice (some ⟨g0,0,none⟩) ks.length h] (grow (putRow encStr (Sort.ahead wr nn) g0 0 (ks.mergeSort λx y=>decide (x<=y)).toArray) os) λe w'=>
      e= .returned (.slice (some ⟨g0,0,none⟩) (Lib.compact (ks.mergeSort λx y=>decide (x<=y))).length h)∧∃q,w'=putRow encStr (Sort.ahead (grow (putRow encStr (Sort.ahead wr nn) g0 0 (ks.mergeSort λx y=>decide (x<=y)).toArray) os) q) g0 0 (Lib.compact (ks.mergeSort λx y=>decide (x<=y))++ZC (ks.length-(Lib.compact (ks.mergeSort λx y=>decide (x<=y))).length) []).toArray:=λnn os=>by
     have pa:(ks.mergeSort λx y=>decide (x<=y)).length=ks.length:=Qu ks;have ia:Go.Sort.Holds encStr (grow (putRow encStr (Sort.ahead wr nn) g0 0 (ks.mergeSort λx y=>decide (x<=y)).toArray) os) g0 0 (ks.mergeSort λx y=>decide (x<=y)).toArray:=
      holds_grow encStr _ os g0 0 _ (by simpa[putRow,mapBlock,Sort.ahead]using ta) (holds_putRow encStr _ g0 0 _ _ (holds_ahead encStr wr nn g0 0 _ hH) U)
     have:=Any.slices_Compact_string aY g0 0 h (ks.mergeSort λx y=>decide (x<=y)) _ ia O O;rw[pa]at this;exact this
    have X:Aside (wr.ownsRow w.heap.size 9 1 (.slice (some ⟨g0,0,none⟩) ks.length h) ks.length (ks.map encStr)∧Below w.heap.size w wr):=⟨ca,fa⟩;clear ca fa hH va z
    go_wp2_with (first
     |(go_at_call 268;refine m.mono ?_;rintro e w2 ⟨rfl,nn,os,rfl⟩)
     |(go_at_call 272;refine(o _ _).mono ?_;rintro e w3 ⟨rfl,q,rfl⟩))
    go_ret
    rw[←HK.out];exact aBU X.out.1 X.out.2 u rfl qa
  |succ g=>
   have oa:(k:Int)<(n:Int):=O
   obtain⟨s,hs⟩:∃s,l[k]?=some s:=⟨_,Qf O⟩;obtain⟨a,rfl,v⟩:=HC.out k s hs;have t:wr.cell? (a.add k)=some (encStr s):=EZ fa v;have hd:Aside (l.drop k=s::l.drop (k+1)):=lM hs;have c2:=H2.out s (QU hs) wr;clear hs v;have ja:=fa.size;generalize ga:encStr s=vs at *;cases hb:(Cq s aa).2 with
   |true=>
    rw[hb]at c2;generalize hp:(Cq s aa).1=p at c2;have d:Aside (Gk aa (l.drop k)=p::Gk aa (l.drop (k+1))):=by
     show _=_;rw[hd.out,TG,if_pos hb,hp]
    clear hp hb
    go_wp2_with (first
     |(go_at_call 271;refine c2.mono ?_;rintro e w2 ⟨rfl,la⟩;have ua:=la.size;have b:=ca.kept (Cc la (Qg _) none ua) (jQ _))
     |(at_builtin;refine wpList_append_own _ rfl _ _ 23 rfl w.heap.size 9 i0 (.string ByteArray.empty) 1 16 underlying23 hi ka ra xa rfl V _ _ _ rfl (b.alloc _) ⟨w2.heap.size,0,none⟩ 1 1 [encStr p] rfl rfl (cell_one_new _ _ _) (λx hx=>by simp at hx;subst hx;rfl) Xp O Xb ?_;intro v' w3 da f i))
    go_roundg g
    case measure=>omega
    case rel=>exact⟨k+1,ks++[p],O,Xx,Yj,Xb,by simpa using da,by show _↔_;rw[i];simp,
      ((fa.grown (Cc la (Qg _) none ua) ja (λj hj=>by cases hj)).alloc O _).grown f Xb (λj hj=>(b.lt j hj).1)⟩
   |false=>
    rw[hb]at c2;generalize hp:(Cq s aa).1=p at c2;have d:Aside (Gk aa (l.drop k)=Gk aa (l.drop (k+1))):=by
     show _=_;rw[hd.out,TG,if_neg (by rw[hb];decide)]
    clear hp hb
    go_wp2_with (first
     |(go_at_call 271;refine c2.mono ?_;rintro e w2 ⟨rfl,la⟩;have ua:=la.size;have b:=ca.kept (Cc la (Qg _) none ua) (jQ _)))
    go_roundg g
    case measure=>omega
    case rel=>exact⟨k+1,ks,O,Xx,X3,O,b,va,fa.grown (Cc la (Qg _) none ua) ja (λj hj=>by cases hj)⟩
abbrev pB(b:Nat):Value:= .pointer (some ⟨b,0,none⟩)
section
variable(w0:World)(bg bs bt b4:Nat)(l:List Tk)(ao:Option Addr)(c:Nat)
structure Hi (w:World) (vg:Value) (xs:List Bs):Prop where
 own:w.ownsRow w0.heap.size 9 1 vg xs.length (xs.map encStr)
 g:w.heap[bg]?=some (.cells #[vg] 23 (0,0))
 s:w.heap[bs]?=some (.cells #[.slice ao l.length c] 31 (0,0))
 t:w.heap[bt]?=some (.cells #[.func (.func 267) #[] #[pB bg,pB bs,pB bt]] 325 (0,0))
 nl:vg= .slice none 0 0↔xs=[]
 r:w.heap[b4]?=some (.cells #[.slice none 0 0] 31 (0,0))
 below:Below w0.heap.size w0 w
theorem NG{w:World}{B e r n b:Nat}{v:Value}{xs:List Value}{cs:Array Value}{T:TypeId}{fr:Nat×Nat}(h:w.ownsRow B e r v n xs)(m:w.heap[b]?=some (.cells cs T fr))(z:T≠e):some b≠v.ownBlock:=by
 rcases h.2 with ⟨rfl,_⟩|⟨g,cap,cur,rfl,_,a,_⟩
 ·intro h;cases h
 ·intro h;simp only[Value.ownBlock,Qv]at h;subst h;rw[m]at a;simp only[Qv,Obj.cells.injEq]at a;exact z a.2.1
variable{w0 bg bs bt b4 l ao c}
def Hi.app{w w3:World}{vg v':Value}{xs:List Bs}{o:Obj}{name:Bs}(u:w0.heap.size<=bg)(T:Hi w0 bg bs bt b4 l ao c w vg xs)(ja:w3.ownsRow w0.heap.size 9 1 v' (xs.length+1) (xs.map encStr++[encStr name]))(z:(w.alloc o).grownBy w3 vg.ownBlock)(ma:v'= .slice none 0 0↔vg= .slice none 0 0∧(1:Nat)=0):
  ∃g cap,v'= .slice (some ⟨g,0,none⟩) (xs.length+1) cap∧w3.cell? ⟨bg,0,none⟩=some vg∧w3.frozen? ⟨bg,0,none⟩=false∧(w3.setCell ⟨bg,0,none⟩ v').cell? ⟨bs,0,none⟩=some (.slice ao l.length c)∧Hi w0 bg bs bt b4 l ao c (w3.setCell ⟨bg,0,none⟩ v') v' (xs++[name]):=by
 have hl:∀{b:Nat} {cs:Array Value} {T:TypeId},w.heap[b]?=some (.cells cs T (0,0))->T≠9->w3.heap[b]?=some (.cells cs T (0,0)):=λ{b cs Ty} m hT=>by
  have x:b<w.heap.size:=(Qx.1 m).1;rw[z.block b Xb (NG T.own m hT),heap_alloc_old w o x];exact m
 have g1:=hl T.g V;have s1:=hl T.s V;have t1:=hl T.t V;have r1:=hl T.r V;have p:v'≠ .slice none 0 0:=λe=>by have:=(ma.1 e).2;omega
 rcases ja.2 with ⟨h0,_⟩|⟨g,cap,cur,i,da,m,q,y,j,h4⟩
 ·exact absurd h0 p
 have a:g≠bg:=λe=>by
  subst e;rw[g1]at m;simp only[Qv,Obj.cells.injEq]at m;exact absurd m.2.1 V
 have v:∀k,k≠bg->(w3.setCell ⟨bg,0,none⟩ v').heap[k]?=w3.heap[k]?:=λk n=>heap_setCell_other w3 ⟨bg,0,none⟩ k _ n
 have la:bs≠bg:=λe=>by have:=T.s;rw[e,T.g]at this;simp at this
 have f:bt≠bg:=λe=>by have:=T.t;rw[e,T.g]at this;simp at this
 have d:b4≠bg:=λe=>by have:=T.r;rw[e,T.g]at this;simp at this
 have s2:(w3.setCell ⟨bg,0,none⟩ v').heap[bs]?=some (.cells #[.slice ao l.length c] 31 (0,0)):=(v bs la).trans s1;refine⟨g,cap,i,by simp[World.cell?,g1],by simp[World.frozen?,g1],by simp[World.cell?,s2],⟨?_,?_,s2,(v bt f).trans t1,⟨λe=>absurd e p,λe=>by simp at e⟩,(v b4 d).trans r1,?_⟩⟩
 ·refine⟨U,.inr ⟨g,cap,cur,by rw[i];simp,da,?_,Xu,y,j,by simpa using h4⟩⟩;rw[v g a];exact m
 ·rw[heap_setCell_same w3 bg 0 _ _ _ g1];rfl
 ·exact((T.below.alloc T.below.size o).grown z (by have:=T.below.size;simp;omega) (λk n=>(T.own.lt k n).1)).setCell u _
def aEt(a:Addr)(n j:Nat):(a.add n).add j=a.add (n+j):=by
 unfold Addr.add;by_cases u:n=0
 ·subst u;simp
 ·grind
def gH(w0:World)(G:Nat->Nat)(l:List Tk)(i:Option Addr):Prop:=∀j k,l[j]?=some k->∃a u z f,i=some a∧w0.cell? (a.add (j*3))=some (encStr k.1)∧w0.cell? (a.add (j*3+1))=some (encStr k.2.1)∧w0.cell? (a.add (j*3+2))=some (.slice u z f)∧Rep w0 (Gh.base G) (.slice k.2.2.1 [] (Ar k.2.2.2)) (.slice u z f)
def gH.load{G:Nat->Nat}{w:World}{j:Nat}{k:Tk}(h:gH w0 G l ao)(m:Below w0.heap.size w0 w)(d:l[j]?=some k):∃a u z f,ao=some a∧w.cell? (a.add (j*3))=some (encStr k.1)∧w.cell? ⟨(a.add (j*3)).block,(a.add (j*3)).off+1,none⟩=some (encStr k.2.1)∧w.cell? ⟨(a.add (j*3)).block,(a.add (j*3)).off+2,none⟩=some (.slice u z f)∧Rep w0 (Gh.base G) (.slice k.2.2.1 [] (Ar k.2.2.2)) (.slice u z f):=by
 obtain⟨a,u,z,f,e,c1,p,y,t⟩:=h j k d;have n:∀i,i≠0->(⟨(a.add (j*3)).block,(a.add (j*3)).off+i,none⟩:Addr)=a.add (j*3+i):=λi hi=>by
  rw[←aEt];generalize a.add (j*3)=b;unfold Addr.add;rw[if_neg hi]
 refine⟨a,u,z,f,e,EZ m c1,?_,?_,t⟩
 ·rw[n 1 V];exact EZ m p
 ·rw[n 2 V];exact EZ m y
def L_(l:List Tk)(t:Tk)(s:Bs):Cb (t::l) s=if t.2.1=s∧t.1≠s then t.1::Cb l s else Cb l s:=by
 grind [Cb]
def Hi.alloc{w:World}{v:Value}{xs:List Bs}(T:Hi w0 bg bs bt b4 l ao c w v xs)(o:Obj):Hi w0 bg bs bt b4 l ao c (w.alloc o) v xs:=
 have hl:∀{b:Nat} {x:Obj},w.heap[b]?=some x->(w.alloc o).heap[b]?=some x:=λ{b x} h=>by
  rw[heap_alloc_old w o (Qx.1 h).1];exact h
 ⟨T.own.alloc o,hl T.g,hl T.s,hl T.t,T.nl,hl T.r,T.below.alloc T.below.size o⟩
def aSB(hg:w0.heap.size<=bg)(hl:l.length<=1000){G:Nat->Nat}(hT:gH w0 G l ao)(name:Bs)(j:Bs->List Bs)(w:World)(vg:Value)(xs:List Bs)
  (b:∀t∈l,t.2.1=name->t.1≠name->∀w vg ys,Hi w0 bg bs bt b4 l ao c w vg ys->ys.length+(j t.1).length<=1000->Calls Qd 267 #[encStr t.1,pB bg,pB bs,pB bt] w λe s=>e= .returned (.tuple #[])∧∃m,Hi w0 bg bs bt b4 l ao c s m (ys++j t.1))
  (r:xs.length+1+((Cb l name).flatMap j).length<=1000) (T:Hi w0 bg bs bt b4 l ao c w vg xs):
  Calls Qd 267 #[encStr name,pB bg,pB bs,pB bt] w λe s=>e= .returned (.tuple #[])∧∃m,Hi w0 bg bs bt b4 l ao c s m (xs++name::(Cb l name).flatMap j):=by
 obtain⟨i0,hi,q⟩:=Qy.1 kZ;simp only[QV]at q;obtain⟨ka,ra,xa⟩:=q;have C1:w.cell? ⟨bg,0,none⟩=some vg:=by simp[World.cell?,T.g]
 have C3:w.frozen? ⟨bg,0,none⟩=false:=by simp[World.frozen?,T.g]
 have ja:xs.length<1000:=O
 have za:w0.heap.size<=w.heap.size:=T.below.size;have TT:Aside (Hi w0 bg bs bt b4 l ao c w vg xs):=T;have HT:Aside (gH w0 G l ao):=hT;have HS:Aside (∀t∈l,t.2.1=name->t.1≠name->∀w vg ys,Hi w0 bg bs bt b4 l ao c w vg ys->ys.length+(j t.1).length<=1000->Calls Qd 267 #[encStr t.1,pB bg,pB bs,pB bt] w λe s=>e= .returned (.tuple #[])∧∃m,Hi w0 bg bs bt b4 l ao c s m (ys++j t.1)):=b;have HL:Aside (xs.length+1+((Cb l name).flatMap j).length<=1000):=r;have v:=T.own;clear T r b hT
 go_enter func267,ntmps267
 go_wp2_with (first
  |(
   at_builtin;refine wpList_append_own _ rfl _ _ 23 rfl w0.heap.size 9 i0 (.string ByteArray.empty) 1 16 underlying23 hi ka ra xa rfl V _ _ _ rfl (v.alloc _) ⟨w.heap.size,0,none⟩ 1 1 [encStr name] rfl rfl (cell_one_new _ _ _) (λx q=>by simp at q;subst q;rfl) Xp O Xb ?_;intro v' w3 da f i
   obtain⟨g2,n,rfl,D1,D2,D3,T2⟩:=TT.out.app hg da f i;have T3:Aside (Hi w0 bg bs bt b4 l ao c (w3.setCell ⟨bg,0,none⟩ (.slice (some ⟨g2,0,none⟩) (xs.length+1) n)) (.slice (some ⟨g2,0,none⟩) (xs.length+1) n) (xs++[name])):=T2;clear i da f T2))
 go_loopg [14] l.length (λg p wx=>∃(k:Nat)(ys:List Bs)(vy:Value),k+g=l.length∧p= .int .i64 k∧Aside (ys++(Cb (l.drop k) name).flatMap j=xs++name::(Cb l name).flatMap j)∧Aside (Hi w0 bg bs bt b4 l ao c wx vy ys))
 case atStart=>exact⟨0,xs++[name],_,O,rfl,by show _=_;simp,T3⟩
 case round=>
  obtain⟨k,ys,vy,sa,rfl,HI,TY⟩:=hrel;cases gk with
  |zero=>
   have oa:¬((k:Int)<(l.length:Int)):=O
   go_wp2_with fail
   go_end0
   refine⟨rfl,vy,?_⟩;have:=HI.out;rw[Q_ O]at this;rw[←this];simpa[Cb]using TY.out
  |succ g=>
   have oa:(k:Int)<(l.length:Int):=O
   obtain⟨t,hs⟩:∃t,l[k]?=some t:=⟨_,Qf O⟩;obtain⟨a,ro,rn,rc,rfl,c1,c2,c3,_⟩:=HT.out.load TY.out.below hs;have hd:Aside (l.drop k=t::l.drop (k+1)):=lM hs;have na:t∈l:=QU hs;by_cases u:t.2.1=name
   ·by_cases y:t.1=name
    ·have d:Aside (Cb (l.drop k) name=Cb (l.drop (k+1)) name):=by
      show _=_;rw[hd.out,L_,if_neg (λh=>h.2 y)]
     go_wp2_with fail
     go_roundg g
     case measure=>omega
     case rel=>exact⟨k+1,ys,vy,O,Xx,X3,TY.out.alloc _⟩
    ·have d:Aside (Cb (l.drop k) name=t.1::Cb (l.drop (k+1)) name):=by
      show _=_;rw[hd.out,L_,if_pos ⟨u,y⟩]
     have bb:∀o,Calls Qd 267 #[encStr t.1,pB bg,pB bs,pB bt] (wr.alloc o) λe s=>e= .returned (.tuple #[])∧∃m,Hi w0 bg bs bt b4 l (some a) c s m (ys++j t.1):=λo=>
      HS.out t na u y _ vy ys (TY.out.alloc o) (by
       have h3:=congrArg ZX HI.out;rw[d.out]at h3;have h4:=HL.out;simp only[ZK,Qj,Qb]at h3;omega)
     have ea:(t.1==name)=false:=XS
     have F:∀o,(wr.alloc o).cell? ⟨bt,0,none⟩=some (.func (.func 267) #[] #[pB bg,pB bs,pB bt]):=λo=>by simp[World.cell?,(TY.out.alloc o).t]
     go_wp2_with (go_at_call 267;refine(bb _).mono ?_;rintro e s ⟨rfl,vz,TZ⟩)
     go_roundg g
     case measure=>omega
     case rel=>exact⟨k+1,ys++j t.1,vz,O,Xx,Yj,TZ⟩
   ·have d:Aside (Cb (l.drop k) name=Cb (l.drop (k+1)) name):=by
     show _=_;rw[hd.out,L_,if_neg (λh=>u h.1)]
    have z:(t.2.1==name)=false:=XU
    go_wp2_with fail
    go_roundg g
    case measure=>omega
    case rel=>exact⟨k+1,ys,vy,O,Xx,X3,TY.out.alloc _⟩
def Hi.kept{w w':World}{v:Value}{xs:List Bs}{row:Option Nat}(T:Hi w0 bg bs bt b4 l ao c w v xs)(h:w.grownBy w' row)(i:∀(b:Nat) cs n,w.heap[b]?=some (.cells cs n (0,0))->n≠107->some b≠row)(d:∀k,row=some k->w0.heap.size<=k):Hi w0 bg bs bt b4 l ao c w' v xs:=by
 have hl:∀{b:Nat} {cs:Array Value} {T:TypeId},w.heap[b]?=some (.cells cs T (0,0))->T≠107->w'.heap[b]?=some (.cells cs T (0,0)):=λ{b cs n} m z=>by
  rw[h.block b (Qx.1 m).1 (i b cs n m z)];exact m
 refine⟨T.own.kept h ?_,hl T.g V,hl T.s V,hl T.t V,T.nl,hl T.r V,T.below.grown h T.below.size d⟩;rcases T.own.2 with ⟨rfl,_⟩|⟨g,cap,cur,rfl,_,m,_⟩
 ·exact .inl rfl
 ·exact .inr (i g cur 9 m V)
def Hi.sorted{w:World}{v:Value}{xs:List Bs}(T:Hi w0 bg bs bt b4 l ao c w v xs)(q:xs≠[]):∃g cap,v= .slice (some ⟨g,0,none⟩) xs.length cap∧g<w.heap.size∧Go.Sort.Holds encStr w g 0 xs.toArray∧
  ∀nn os,Hi w0 bg bs bt b4 l ao c (grow (putRow encStr (Sort.ahead w nn) g 0 (xs.mergeSort λx y=>decide (x<=y)).toArray) os) v (xs.mergeSort λx y=>decide (x<=y)):=by
 have p:v≠ .slice none 0 0:=λe=>q (T.nl.1 e)
 have a:(xs.mergeSort λx y=>decide (x<=y)).length=xs.length:=Qu xs;rcases T.own.2 with ⟨h0,_⟩|⟨g,cap,cur,i,da,hb,u,f,j,h4⟩
 ·exact absurd h0 p
 refine⟨g,cap,i,(Qx.1 hb).1,Go.holds_of_block hb (by simpa using h4),λnn os=>?_⟩;have z:=Go.grownBy_sorted (w:=w) (g:=g) (n:=nn) (os:=os) (xs.mergeSort λx y=>decide (x<=y)).toArray;have hl:∀{b:Nat} {cs:Array Value} {T:TypeId},w.heap[b]?=some (.cells cs T (0,0))->T≠9->(grow (putRow encStr (Sort.ahead w nn) g 0 (xs.mergeSort λx y=>decide (x<=y)).toArray) os).heap[b]?=some (.cells cs T (0,0)):=λ{b cs d} m hT=>by
  rw[z.block b (Qx.1 m).1 (λe=>by
   have:=NG T.own m hT;rw[i]at this;exact this e)];exact m
 refine⟨?_,hl T.g V,hl T.s V,hl T.t V,⟨λe=>absurd e p,λe=>?_⟩,hl T.r V,T.below.grown z T.below.size (λk o=>by cases o;exact da)⟩
 ·rw[i,a];exact Go.ownsRow_sorted a da hb u f j
 ·grind
def aKP(x:w0.heap.size<=bg)(hl:l.length<=1000){G:Nat->Nat}(z:gH w0 G l ao){r:Bs->Nat}(T:HZ l r):∀(f:Nat)(name:Bs),l.length<=r name+f->∀(w:World)(v:Value)(xs:List Bs),Hi w0 bg bs bt b4 l ao c w v xs->xs.length+(Eb l f name).length<=1000->
  Calls Qd 267 #[encStr name,pB bg,pB bs,pB bt] w λe s=>e= .returned (.tuple #[])∧∃m,Hi w0 bg bs bt b4 l ao c s m (xs++Eb l f name)
 |0,name,hr,w,v,xs,h,hlen=>by
  have o:Cb l name=[]:=by
   cases hc:Cb l name with
   |nil=>rfl
   |cons a t=>have:=IM T (show a∈Cb l name by rw[hc];exact Qq ..);omega
  have:=aSB x hl z name (λ_=>[]) w v xs (λt q u y=>by
   have i:=T.up t q;have p:=T.top t q;rw[u]at i;omega) (by rw[o];simpa[Eb]using hlen) h
  rw[o]at this;exact this
 |f+1,name,hr,w,v,xs,h,hlen=>by
  refine aSB x hl z name (Eb l f) w v xs (λt q u y w v ys j b=>?_) (by simp only[Eb,Qb]at hlen;omega) h;have i:=T.up t q;rw[u]at i;exact aKP x hl z T f t.1 O w v ys j b
end
def aIa:(Tryz.prog.info? 107).map (λi=>(i.zero,i.size,i.bytes))=some (some (.agg #[.string ByteArray.empty,.string ByteArray.empty,.slice none 0 0]),3,56):=Z
def tkV(p:Tk×Value):List Value:=[encStr p.1.1,encStr p.1.2.1,p.2]
def xP(w:World)(a b c:Value)(t:TypeId):∀j u,[a,b,c][j]?=some u->(w.alloc (.cells #[a,b,c] t)).cell? ((⟨w.heap.size,0,none⟩:Addr).add j)=some u:=by
 intro j u d
 match j,d with
 |0,d=>simp at d;subst d;simp[Addr.add]
 |1,d=>simp at d;subst d;simp[Addr.add]
 |2,d=>simp at d;subst d;simp[Addr.add]
def SY{w y:World}{z c:Obj}(h:Below ((w.alloc z).alloc c).heap.size ((w.alloc z).alloc c) y):y.heap[w.heap.size]?=some z∧y.heap[w.heap.size+1]?=some c∧Below w.heap.size w y∧w.heap.size+2<=y.heap.size:=by
 have o:(w.alloc z).heap.size=w.heap.size+1:=Q1 _;have s:((w.alloc z).alloc c).heap.size=w.heap.size+2:=(Q1 _).trans (by rw[o]);have n:(w.alloc z).heap[w.heap.size]?=some z:=heap_alloc_new w z;have v:((w.alloc z).alloc c).heap[w.heap.size]?=some z:=by rw[heap_alloc_old _ _ O];exact n
 have d:((w.alloc z).alloc c).heap[w.heap.size+1]?=some c:=by have:=heap_alloc_new (w.alloc z) c;rwa [o]at this
 exact⟨by rw[h.block _ O];exact v,by rw[h.block _ O];exact d,(((Below.refl _ w).alloc (Qg _) _).alloc O _).trans (h.mono O),by have:=h.size;omega⟩
def Ei{w:World}{b:Nat}{v:Value}{T:TypeId}(h:w.heap[b]?=some (.cells #[v] T (0,0))):w.cell? ⟨b,0,none⟩=some v:=by simp[World.cell?,h]
def qD{w:World}{b:Nat}{v:Value}{T:TypeId}(h:w.heap[b]?=some (.cells #[v] T (0,0))):w.frozen? ⟨b,0,none⟩=false:=by simp[World.frozen?,h]
def aSD(w:World)(l:List Tk)(i:Option Addr)(c:Nat)(name:Bs)(q:Int)
  (b:∀r,Below w.heap.size w r->Calls Qd 40 #[.agg #[.slice i l.length c],encStr name] r λe t=>e= .returned (.tuple #[.int .i64 q,.bool false])∧Below r.heap.size r t):
  Calls Qd 214 #[.agg #[.slice i l.length c],encStr name] w λe t=>e= .returned (.tuple #[.agg #[.slice i l.length c],.slice none 0 0,.int .i64 6])∧Below w.heap.size w t:=by
 go_enter func214,ntmps214
 go_wp2_with fail
 refine(b _ (((Below.refl _ w).alloc (Qg _) _).alloc U _)).mono ?_;rintro e y ⟨rfl,n⟩;obtain⟨j,z,m,a⟩:=SY n;have u:y.cell? ⟨w.heap.size,0,none⟩=some (.slice i l.length c):=by simp[World.cell?,j]
 have x:y.cell? ⟨w.heap.size+1,0,none⟩=some (.slice none 0 0):=by simp[World.cell?,z]
 have s:y.frozen? ⟨w.heap.size+1,0,none⟩=false:=by simp[World.frozen?,z]
 have k:∀v,(y.setCell ⟨w.heap.size+1,0,none⟩ v).cell? ⟨w.heap.size+1,0,none⟩=some v:=λv=>World.cell?_setCell_same' _ _ _ (by rw[x];rfl)
 go_wp2_with fail
 refine bodyPost_ret (v:= .tuple #[.agg #[.slice i l.length c],.slice none 0 0,.int .i64 6]) (by simp[results,results214,go_sem,k]) rfl ⟨rfl,m.setCell U _⟩
def CT(l:List Tk)(gone:List Bs):List Tk:=l.filter λt=>!Gn gone t.1
def Rm(t:Tk)(l:List Tk)(gone:List Bs):CT (t::l) gone=if Gn gone t.1=true then CT l gone else t::CT l gone:=by
 grind [CT,Gn]
def Ol{w:World}{B e r n b:Nat}{v u:Value}{xs:List Value}(h:w.ownsRow B e r v n xs)(p:some b≠v.ownBlock):(w.setCell ⟨b,0,none⟩ u).ownsRow B e r v n xs:=by
 refine⟨h.1,?_⟩;rcases h.2 with h|⟨g,cap,cur,rfl,q,f,i⟩
 ·exact .inl h
 ·refine .inr ⟨g,cap,cur,rfl,q,?_,i⟩;rw[heap_setCell_other _ _ _ _ (λe=>p (congrArg some (show b=g from e.symm)))];exact f
def iW{w y:World}{l:List Tk}{i:Option Addr}{c:Nat}(j:y.heap[w.heap.size]?=some (.cells #[.slice i l.length c] 31 (0,0)))(z:y.heap[w.heap.size+1]?=some (.cells #[.slice none 0 0] 31 (0,0)))(m:Below w.heap.size w y)(a:w.heap.size+2<=y.heap.size):
  Hi w y.heap.size w.heap.size (y.heap.size+1) (w.heap.size+1) l i c ((y.alloc (Obj.cells #[Value.slice none 0 0] 23)).alloc (Obj.cells #[Value.func (Fn.func 267) #[] #[pB y.heap.size,pB w.heap.size,pB (y.heap.size+1)]] 325)) (.slice none 0 0) []:=by
 have f:(y.alloc (Obj.cells #[Value.slice none 0 0] 23)).heap.size=y.heap.size+1:=Q1 _;have b:∀o {k:Nat} {x:Obj},y.heap[k]?=some x->((y.alloc (Obj.cells #[Value.slice none 0 0] 23)).alloc o).heap[k]?=some x:=λo k x h=>by
  have n:=(Qx.1 h).1;rw[heap_alloc_old _ _ O,heap_alloc_old _ _ n];exact h
 refine⟨World.ownsRow_nil _ _ _ _,?_,b _ j,?_,⟨λ_=>rfl,λ_=>rfl⟩,b _ z,(m.alloc O _).alloc O _⟩
 ·rw[heap_alloc_old _ _ O];exact heap_alloc_new _ _
 ·have:=heap_alloc_new (y.alloc (Obj.cells #[Value.slice none 0 0] 23)) (Obj.cells #[Value.func (Fn.func 267) #[] #[pB y.heap.size,pB w.heap.size,pB (y.heap.size+1)]] 325)
  rwa [f]at this
def aSC(w:World)(G:Nat->Nat)(l:List Tk)(ao:Option Addr)(c:Nat)(name:Bs)(q:Int)(r:Bs->Nat)(hl:l.length<=900)(hT:gH w G l ao)(T:HZ l r)
  (fa:∀wx,Below w.heap.size w wx->Calls Qd 40 #[.agg #[.slice ao l.length c],encStr name] wx λe w'=>e= .returned (.tuple #[.int .i64 q,.bool true])∧Below wx.heap.size wx w')
  (i:∀(wx:World)(v:Value)(ys:List Bs)(s:Bs),wx.ownsRow w.heap.size 9 1 v ys.length (ys.map encStr)->ys≠[]->ys.length<=1000->(v= .slice none 0 0↔ys=[])->Calls Qd 269 #[v,encStr s] wx λe w'=>e= .returned (.bool (Gn ys s))∧Below wx.heap.size wx w'):
  Calls Qd 214 #[.agg #[.slice ao l.length c],encStr name] w λe w'=>∃gv lv ps,e= .returned (.tuple #[.agg #[lv],gv,.int .i64 0])∧Below w.heap.size w w'∧
   w'.ownsRow w.heap.size 9 1 gv (Eb l l.length name).length (((Eb l l.length name).mergeSort λx y=>decide (x<=y)).map encStr)∧gv≠ .slice none 0 0∧
   w'.ownsRow w.heap.size 107 3 lv ps.length (ps.flatMap tkV)∧(lv= .slice none 0 0↔ps=[])∧ps.map (·.1)=CT l ((Eb l l.length name).mergeSort λx y=>decide (x<=y))∧
   ∀p∈ps,Rep w (Gh.base G) (.slice p.1.2.2.1 [] (Ar p.1.2.2.2)) p.2:=by
 obtain⟨i0,hi,hx⟩:=Qy.1 aIa;simp only[QV]at hx;obtain⟨ka,ra,xa⟩:=hx;have ia:=qN T l.length name;have wa:Eb l l.length name≠[]:=by cases l.length<;>simp[Eb]
 go_enter func214,ntmps214
 go_wp2_with fail
 refine(fa _ (((Below.refl _ w).alloc (Qg _) _).alloc U _)).mono ?_;rintro e w2 ⟨rfl,la⟩;obtain⟨x1,x2,x3,x4⟩:=SY la;clear la;have D0:((w2.alloc (Obj.cells #[Value.slice none 0 0] 23)).alloc (Obj.cells #[Value.nilFunc] 325)).heap[w2.heap.size+1]?=some (Obj.cells #[Value.nilFunc] 325):=by
  have:=heap_alloc_new (w2.alloc (Obj.cells #[Value.slice none 0 0] 23)) (Obj.cells #[Value.nilFunc] 325)
  rwa [show(w2.alloc (Obj.cells #[Value.slice none 0 0] 23)).heap.size=w2.heap.size+1 from Q1 _]at this
 have D1:((w2.alloc (Obj.cells #[Value.slice none 0 0] 23)).alloc (Obj.cells #[Value.nilFunc] 325)).cell? ⟨w2.heap.size+1,0,none⟩=some Value.nilFunc:=Ei D0;have D2:((w2.alloc (Obj.cells #[Value.slice none 0 0] 23)).alloc (Obj.cells #[Value.nilFunc] 325)).frozen? ⟨w2.heap.size+1,0,none⟩=false:=qD D0
 go_wp2_with fail
 have T0:=iW x1 x2 x3 x4;refine(aKP O O hT T l.length name O _ _ _ T0 Xb).mono ?_;rintro e w3 ⟨rfl,v3,T3⟩;clear T0 D0 D1 D2;rw[QH]at T3;generalize hD:Eb l l.length name=ds at *;obtain⟨g,cap,rfl,ea,hH,T4⟩:=T3.sorted wa;have E1:w3.cell? ⟨w2.heap.size,0,none⟩=some (.slice (some ⟨g,0,none⟩) ds.length cap):=Ei T3.g;have m:Calls Qd 268 #[.slice (some ⟨g,0,none⟩) ds.length cap] w3 λe w'=>e= .returned (.tuple #[])∧∃n os,w'=grow (putRow encStr (Sort.ahead w3 n) g 0 (ds.mergeSort λx y=>decide (x<=y)).toArray) os:=Any.slices_Sort_string aT g 0 cap ds w3 hH ea O
 go_wp2_with fail
 refine m.mono ?_;rintro e w4 ⟨rfl,nn,os,bb⟩;replace T4:=T4 nn os;rw[←bb]at T4;clear m bb T3 hH E1;have pa:(ds.mergeSort λx y=>decide (x<=y)).length=ds.length:=Qu ds;have ga:(ds.mergeSort λx y=>decide (x<=y))≠[]:=λe=>by rw[e]at pa;exact wa (Ze pa.symm)
 generalize ya:(ds.mergeSort λx y=>decide (x<=y))=ss at *;have E2:w4.cell? ⟨w.heap.size,0,none⟩=some (.slice ao l.length c):=Ei T4.s;have HT:Aside (gH w G l ao):=hT;have H2:Aside (∀(wx:World)(v:Value)(ys:List Bs)(s:Bs),wx.ownsRow w.heap.size 9 1 v ys.length (ys.map encStr)->ys≠[]->ys.length<=1000->(v= .slice none 0 0↔ys=[])->Calls Qd 269 #[v,encStr s] wx λe w'=>e= .returned (.bool (Gn ys s))∧Below wx.heap.size wx w'):=i;clear hT i fa;generalize ua:ds.length=n at *
 go_wp2_with fail
 go_loopg [11,32] l.length (λgg aa ab wx=>∃(k:Nat)(ps:List (Tk×Value)),k+gg=l.length∧ab= .int .i64 k∧ps.length<=k∧Aside (ps.map (·.1)++CT (l.drop k) ss=CT l ss)∧
  wx.ownsRow w.heap.size 107 3 aa ps.length (ps.flatMap tkV)∧Aside (aa= .slice none 0 0↔ps=[])∧Aside (∀p∈ps,Rep w (Gh.base G) (.slice p.1.2.2.1 [] (Ar p.1.2.2.2)) p.2)∧
  Aside (Hi w w2.heap.size w.heap.size (w2.heap.size+1) (w.heap.size+1) l ao c wx (.slice (some ⟨g,0,none⟩) n cap) ss))
 case atStart=>exact⟨0,[],O,rfl,Qg _,rfl,World.ownsRow_nil _ _ _ _,ZY (λ_=>rfl) (λ_=>rfl),(by show ∀p∈([]:List (Tk×Value)),_;intro p hp;cases hp),T4⟩
 case round=>
  obtain⟨k,ps,sa,rfl,ta,HI,ca,va,HR,TY⟩:=hrel;have za:=TY.out.below.size;cases gk with
  |zero=>
   have oa:¬((k:Int)<(l.length:Int)):=O
   have G1:wr.cell? ⟨w2.heap.size,0,none⟩=some (.slice (some ⟨g,0,none⟩) n cap):=Ei TY.out.g;have G2:wr.cell? ⟨w.heap.size+1,0,none⟩=some (.slice none 0 0):=Ei TY.out.r;have G3:wr.frozen? ⟨w.heap.size+1,0,none⟩=false:=qD TY.out.r;have G0:w.heap.size+1≠w2.heap.size:=O
   have G4:∀v,(wr.setCell ⟨w.heap.size+1,0,none⟩ v).cell? ⟨w2.heap.size,0,none⟩=some (.slice (some ⟨g,0,none⟩) n cap):=λv=>(World.cell?_setCell_other _ _ _ _ (λe=>G0 (congrArg Addr.block e))).trans G1
   have G5:∀v,(wr.setCell ⟨w.heap.size+1,0,none⟩ v).cell? ⟨w.heap.size+1,0,none⟩=some v:=λv=>World.cell?_setCell_same' _ _ _ (by rw[G2];rfl)
   obtain⟨lo,ln,lc,rfl⟩:∃lo ln lc,u11= .slice lo ln lc:=by
    rcases ca.2 with ⟨h,_⟩|⟨_,_,_,h,_⟩<;>exact⟨_,_,_,h⟩
   go_wp2_with fail
   go_region
   all_goals (
    go_wp2_with fail
    have ba:=Ol (u:= .slice lo ln lc) ca (NG ca TY.out.r V);have ja:=Ol (u:= .slice lo ln lc) TY.out.own (NG TY.out.own TY.out.r V);have ma:=TY.out.below.setCell (p:=⟨w.heap.size+1,0,none⟩) U (.slice lo ln lc);refine bodyPost_ret (v:= .tuple #[.agg #[.slice lo ln lc],.slice (some ⟨g,0,none⟩) n cap,.int .i64 0]) (by simp[results,results214,go_sem,G5]) rfl ⟨_,_,ps,rfl,⟨ma.os,ma.tape,ma.output,ma.size,ma.block⟩,?_,U,ba,va.out,?_,HR.out⟩
    ·rw[pa]at ja;rw[hD,ya,ua];exact ja
    ·have:=HI.out;rw[Q_ O]at this;rw[hD,ya,←this];simp[CT])
  |succ gg=>
   have oa:(k:Int)<(l.length:Int):=O
   obtain⟨t,hs⟩:∃t,l[k]?=some t:=⟨_,Qf O⟩;obtain⟨a,ro,rn,rc,rfl,c1,c2,c3,c4⟩:=HT.out.load TY.out.below hs;have hd:Aside (l.drop k=t::l.drop (k+1)):=lM hs;have qa:∀o,Calls Qd 269 #[.slice (some ⟨g,0,none⟩) n cap,encStr t.1] (wr.alloc o) λe w'=>e= .returned (.bool (Gn ss t.1))∧Below (wr.alloc o).heap.size (wr.alloc o) w':=λo=>
    H2.out _ _ ss t.1 (TY.out.alloc o).own ga O ⟨λe=>by simp at e,λe=>absurd e ga⟩
   have E3:∀o,(wr.alloc o).cell? ⟨w2.heap.size,0,none⟩=some (.slice (some ⟨g,0,none⟩) n cap):=λo=>Ei (TY.out.alloc o).g
   have C4:Aside (Rep w (Gh.base G) (.slice t.2.2.1 [] (Ar t.2.2.2)) (.slice ro rn rc)):=c4;clear c4 hs
   go_wp2_with fail
   refine(qa _).mono ?_;rintro e w5 ⟨rfl,ja⟩;generalize ho:Obj.cells #[encStr t.1,encStr t.2.1,.slice ro rn rc] 107 (0,0)=ob at *;have na:=ja.size;have cb:(wr.alloc ob).heap.size=wr.heap.size+1:=Q1 _;have T5:Aside (Hi w w2.heap.size w.heap.size (w2.heap.size+1) (w.heap.size+1) l (some a) c w5 (.slice (some ⟨g,0,none⟩) n cap) ss):=
    (TY.out.alloc ob).kept (Cc ja (Qg _) none na) (λ_ _ _ _ _ h=>Xc) (λ_ h=>Xc)
   have f:=(ca.alloc ob).kept (Cc ja (Qg _) none na) (jQ _);have F0:w5.heap[wr.heap.size]?=some ob:=by rw[ja.block _ O];exact heap_alloc_new _ _
   subst ho;have F1:w5.cell? ⟨wr.heap.size,0,none⟩=some (encStr t.1):=Ye
   have F2:w5.cell? ⟨wr.heap.size,1,none⟩=some (encStr t.2.1):=Ye
   have F3:w5.cell? ⟨wr.heap.size,2,none⟩=some (.slice ro rn rc):=Ye
   clear qa E3 ja F0;cases hb:Gn ss t.1 with
   |true=>
    have d:Aside (CT (l.drop k) ss=CT (l.drop (k+1)) ss):=by show _=_;rw[hd.out,Rm,if_pos hb]
    clear hb
    go_wp2_with fail
    go_roundg gg
    case measure=>omega
    case rel=>exact⟨k+1,ps,O,Xx,O,X3,f,va,HR,T5⟩
   |false=>
    have d:Aside (CT (l.drop k) ss=t::CT (l.drop (k+1)) ss):=by show _=_;rw[hd.out,Rm,if_neg (by rw[hb];decide)]
    clear hb
    go_wp2_with (at_builtin;refine wpList_append_own _ rfl _ _ 29 rfl w.heap.size 107 i0 (.agg #[.string ByteArray.empty,.string ByteArray.empty,.slice none 0 0]) 3 56 underlying29 hi ka ra xa rfl V _ _ _ rfl (f.alloc _) ⟨w5.heap.size,0,none⟩ 1 1 [encStr t.1,encStr t.2.1,.slice ro rn rc] rfl rfl (xP _ _ _ _ _) (λx hx=>by simp at hx;rcases hx with rfl|rfl|rfl<;>rfl) Xp O Xb ?_;intro v' w6 da z ha)
    have db:(w5.alloc (Obj.cells #[encStr t.1,encStr t.2.1,.slice ro rn rc] 107 (0,0))).heap.size=w5.heap.size+1:=Q1 _;have T6:Aside (Hi w w2.heap.size w.heap.size (w2.heap.size+1) (w.heap.size+1) l (some a) c w6 (.slice (some ⟨g,0,none⟩) n cap) ss):=
     (T5.out.alloc _).kept z (λb cs Ty hb hT=>NG (f.alloc _) hb hT) (λj hj=>(f.lt j hj).1)
    go_roundg gg
    case measure=>omega
    case rel=>exact⟨k+1,ps++[(t,.slice ro rn rc)],O,Xx,Xb,Yj,by simpa[tkV]using da,by show _↔_;rw[ha];simp,(by
      show ∀p∈_,_;intro p hp;rcases QR.1 hp with h|h
      ·exact HR.out p h
      ·rw[Zj.1 h];exact C4.out),T6⟩
def F7{w r:World}{G:Nat->Nat}{d:D}{v:Value}(h:Rep w (Gh.base G) d v)(s:d.calm=true)(j:∀b,w.heap.size<=b->G b=0)(m:Below w.heap.size w r){G':Nat->Nat}(k:∀b,b<w.heap.size->G b<=G' b):Rep r (Gh.base G') d v:=
 h.calm_to s (λp c=>by
  have u:p.block<w.heap.size:=by
   grind [Gh.base]
  exact m.cell u) (λb=>by
  rcases ZV b w.heap.size with h|h
  ·exact k b h
  ·show G b<=_;rw[j b h];exact Qi _)
def tZ{w:World}{G:Nat->Nat}{nl:Bool}{t:Id}{l:List Tk}{v:Value}(h:Rep w (Gh.base G) (.slice nl t (AL l)) v):∃r c,v= .slice r l.length c∧gH w G l r:=by
 rcases h.slice_inv with ⟨_,z,rfl⟩|⟨_,ad,n,c,sz,e,rfl,g,m,q,r4,r5,r6,r7,r8,r9⟩
 ·have:l=[]:=by cases l with|nil=>rfl|cons=>cases z
  subst this;exact⟨none,0,rfl,λj s h=>Xd⟩
 ·rw[show(AL l).length=l.length from QI ..]at g;subst g;refine⟨some ad,c,rfl,λj k d=>?_⟩;have u:j<l.length:=(Qz.1 d).1;have x:sz=3:=(q (PK k) (Qw.2 ⟨k,QU d,rfl⟩)).symm;subst x;have o:l[j]=k:=(Qz.1 d).2;have b:∀i,i<3->(flat (AL l))[j*3+i]?=(PK k).cells[i]?:=λi hi=>by
   rw[Et q (by simpa[AL]using u) hi];simp[AL,o]
  have p:=(r6 _ _ ((b 0 V).trans rfl)).str_inv;have e1:=(r6 _ _ ((b 1 V).trans rfl)).str_inv;have y:=r6 _ _ ((b 2 V).trans rfl);obtain⟨a,f,ev,_⟩:=y.len_slice;rw[ev]at y;exact⟨ad,a,_,f,rfl,by rw[r4 _ O];exact congrArg some p,by rw[r4 _ O];exact congrArg some e1,by rw[r4 _ O,ev],y⟩
def RC{w:World}{g:Gh}:∀(ps:List (Tk×Value))(_:∀p∈ps,Rep w g (.slice p.1.2.2.1 [] (Ar p.1.2.2.2)) p.2)(j:Nat)(d:D),(flat (AL (ps.map (·.1))))[j]?=some d->∃v,(ps.flatMap tkV)[j]?=some v∧v.oneCell'=true∧Rep w g d v
 |[],_,j,d,h=>by simp[AL,flat]at h
 |p::ps,hp,j,d,h=>by
  have e:flat (AL ((p::ps).map (·.1)))=[D.str p.1.1,D.str p.1.2.1,D.slice p.1.2.2.1 [] (Ar p.1.2.2.2)]++flat (AL (ps.map (·.1))):=rfl;rw[e]at h;rw[ZK];have i:=hp p (Qq ..)
  match j,h with
  |0,h=>cases h;exact⟨_,rfl,rfl,.str _⟩
  |1,h=>cases h;exact⟨_,rfl,rfl,.str _⟩
  |2,h=>
   cases h;refine⟨p.2,rfl,?_,i⟩;obtain⟨_,_,ev,_⟩:=i.len_slice;rw[ev];rfl
  |j+3,h=>exact RC ps (λq y=>hp q (QG _ y)) j d h
def aHr{w:World}{B e:Nat}{lv:Value}{ps:List (Tk×Value)}{g:Gh}(h:w.ownsRow B e 3 lv ps.length (ps.flatMap tkV))(i:lv= .slice none 0 0↔ps=[])(k:∀p∈ps,Rep w g (.slice p.1.2.2.1 [] (Ar p.1.2.2.2)) p.2)(hG:∀b,lv.ownBlock=some b->ps.length*3<=g.G b):Rep w g (.slice (decide (ps.map (·.1)=[])) [] (AL (ps.map (·.1)))) lv:=by
 rcases h.2 with ⟨z,o⟩|⟨b,c,cur,y,_,_,f,_⟩
 ·have:=i.1 z;subst this;subst z;exact .nils _
 ·have q:ps≠[]:=λe=>by rw[i.2 e]at y;cases y
  have m:=hG b Xw;rw[decide_eq_false Xu];have x:=h;subst y;refine .slice [] _ ⟨b,0,none⟩ ps.length c 3 (λj=>(ps.flatMap tkV).getD j .nilFunc) (by simp[AL]) f (λd t=>?_) (λj r=>?_) (λj r=>?_) (λj d t=>?_) (λ_=>Xa) (λh=>absurd rfl h) (λd t=>?_)
  ·obtain⟨s,_,rfl⟩:=Qw.1 t;rfl
  ·have sa:j<(ps.flatMap tkV).length:=by rw[h.1];exact r
   exact x.cells rfl j _ (by simp only[QC];rw[Qf sa];rfl)
  ·have u:j<(flat (AL (ps.map (·.1)))).length:=by
    rw[Cr (sz:=3) (λd t=>by obtain⟨s,_,rfl⟩:=Qw.1 t;rfl)];simpa[AL]using r
   obtain⟨v,n,l,_⟩:=RC ps k j _ (Qf u);simp only[QC,n,Q7];exact l
  ·obtain⟨v,n,_,a⟩:=RC ps k j d t;simp only[QC,n,Q7];exact a
  ·obtain⟨s,_,rfl⟩:=Qw.1 t;rfl
def Th(s z:Bs):(Dl s z).length<=s.length:=by
 grind [Dl]
def jD(l:List Bs):List Bs:=l.mergeSort λx y=>decide (x<=y)
def rD(z:Bs)(l:List Bs):List Bs:=Lib.compact (jD (Gk z l))
def cN(p:Bs×Bool×List Bs):List D:=[.str p.1,.slice p.2.1 [] (strsD p.2.2)]
theorem uC{a b:List Bs}(h:strsD a=strsD b):a=b:=by
 unfold strsD at h;exact List.map_inj_right (λx y e=>by cases e;rfl) |>.1 h
def vA(x y)(h:cN x=cN y):x=y:=by
 grind [cN,uC]
def SQ:List D->Option D:=FX cN (λp=>p.2.2.length<=2000∧∀s∈p.2.2,s.length<=1000000) λp=> .slice (decide (Gk p.1 p.2.2=[])) [] (strsD (rD p.1 p.2.2))
def aJ3{z:Bs}{nl:Bool}{l:List Bs}(h:l.length<=2000)(j:∀s∈l,s.length<=1000000):SQ [.str z,.slice nl [] (strsD l)]=some (.slice (decide (Gk z l=[])) [] (strsD (rD z l))):=
 B5 (mk:=cN) (a:=(z,nl,l)) vA ⟨h,j⟩
def aUa:Kq SQ 217:=by
 refine Gg ⟨_,func217,Z,Z⟩ λds r hF vs w G hl y j=>⟨?_,?_⟩
 ·obtain⟨p,_,_,rfl⟩:=Ds hF;rfl
 ·obtain⟨⟨z,nl,l⟩,⟨o,k⟩,rfl,rfl⟩:=Ds hF;simp only at o k
  match vs,hl with
  |[v0,v1],_=>
   have e0:=(y 0 _ v0 rfl rfl).str_inv;subst e0;obtain⟨i,c,rfl,x⟩:=iY (y 1 _ v1 rfl rfl);refine(aXF w z l i c o x (λs a w=>?_)).mono ?_
   ·refine(Iz aVu (aJz s z (k s a) (Th s z)) rfl w).mono ?_;rintro e t ⟨v,g',rfl,m,u⟩;refine⟨?_,m⟩;obtain⟨us,rfl,oa,q⟩:=u.tup_inv
    match us,oa with
    |[u0,u1],_=>
     rw[(q 0 _ u0 rfl rfl).str_inv,(q 1 _ u1 rfl rfl).bool_inv]
   ·rintro e t ⟨v,rfl,m,⟨rfl,n⟩|⟨n,g,cap,rfl,d,f,ja⟩⟩
    ·refine⟨_,G,rfl,m,λb h=>j b (QF m.size h),λ_ _=>rfl,?_⟩;have e:rD z l=[]:=by unfold rD jD;rw[n,List.mergeSort_nil];rfl
     rw[e,decide_eq_true n];exact .nils _
    ·refine⟨_,λb=>if b<w.heap.size then G b else if b=g then(rD z l).length else 0,rfl,m,λb h=>?_,λb h=>if_pos h,?_⟩
     ·grind
     ·rw[decide_eq_false n];exact My ja (by simp only[Gh.base];rw[if_neg O,if_pos trivial];exact Qg _)
def Cx(l:List Tk)(s:Bs):List Bs:=jD (Eb l l.length s)
def Tx(p:Bool×List Tk×Bs):List D:=[.agg [.slice p.1 [] (AL p.2.1)],.str p.2.2]
def Tw(x y)(h:Tx x=Tx y):x=y:=by
 grind [Tx,WM]
def Iy(p:Bool×List Tk×Bs):D:=if A0 p.2.1 p.2.2=false then .tup [.agg [.slice p.1 [] (AL p.2.1)],.slice true [] (strsD []),.int .i64 6]
 else .tup [.agg [.slice (decide (CT p.2.1 (Cx p.2.1 p.2.2)=[])) [] (AL (CT p.2.1 (Cx p.2.1 p.2.2)))],.slice false [] (strsD (Cx p.2.1 p.2.2)),.int .i64 0]
def Sm:List D->Option D:=FX Tx (λp=>p.2.1.length<=900∧∃r,HZ p.2.1 r) Iy
def aJ4{nl:Bool}{l:List Tk}{s:Bs}{r:Bs->Nat}(h:l.length<=900)(i:HZ l r)(d:A0 l s=false):Sm [.agg [.slice nl [] (AL l)],.str s]=some (.tup [.agg [.slice nl [] (AL l)],.slice true [] (strsD []),.int .i64 6]):=by
 have:=B5 (mk:=Tx) (ok:=λp=>p.2.1.length<=900∧∃r,HZ p.2.1 r) (res:=Iy) (a:=(nl,l,s)) Tw ⟨h,r,i⟩;rw[show Iy (nl,l,s)=_ from if_pos d]at this;exact this
def aFW{nl:Bool}{l:List Tk}{s:Bs}{r:Bs->Nat}(h:l.length<=900)(i:HZ l r)(d:A0 l s=true):Sm [.agg [.slice nl [] (AL l)],.str s]=some (.tup [.agg [.slice (decide (CT l (Cx l s)=[])) [] (AL (CT l (Cx l s)))],.slice false [] (strsD (Cx l s)),.int .i64 0]):=by
 have:=B5 (mk:=Tx) (ok:=λp=>p.2.1.length<=900∧∃r,HZ p.2.1 r) (res:=Iy) (a:=(nl,l,s)) Tw ⟨h,r,i⟩;rw[show Iy (nl,l,s)=_ from if_neg (by rw[d];decide)]at this;exact this
def aUb:Kq Sm 214:=by
 refine Gg ⟨_,func214,Z,Z⟩ λds r hF vs w G hl da ca=>⟨?_,?_⟩
 ·obtain⟨p,_,_,rfl⟩:=Ds hF;unfold Iy;split<;>rfl
 ·obtain⟨⟨nl,l,s⟩,⟨ba,rk,hT⟩,rfl,rfl⟩:=Ds hF;simp only at ba hT
  match vs,hl with
  |[v0,v1],_=>
   have e1:=(da 1 _ v1 rfl rfl).str_inv;subst e1;have sa:=da 0 _ v0 rfl rfl;obtain⟨us,rfl,oa,y,hu⟩:=aI sa
   match us,oa with
   |[u0],_=>
    have ta:=hu 0 _ u0 rfl rfl;obtain⟨ao,c,rfl,ka⟩:=tZ ta;have fa:∀wx,Below w.heap.size w wx->Calls Qd 40 #[.agg #[.slice ao l.length c],encStr s] wx λe w'=>e= .returned (.tuple #[.int .i64 (Ir l s:Int),.bool (A0 l s)])∧Below wx.heap.size wx w':=λwx hb=>by
     refine(El (vs:=[.agg #[.slice ao l.length c],encStr s]) (G:=G) aBi (Oa (nl:=nl) (t:=[]) (l:=l) (s:=s) O) rfl rfl rfl (λj d v z hv=>?_) (λb h=>ca b (QF hb.size h))).mono ?_
     ·match j,z,hv with
      |0,z,hv=>cases z;cases hv;exact F7 sa rfl ca hb (λ_ _=>Qg _)
      |1,z,hv=>cases z;cases hv;exact .str _
     ·rintro e w' ⟨v,g',rfl,va,hR⟩;refine⟨?_,va⟩;obtain⟨us,rfl,oa,hu⟩:=hR.tup_inv
      match us,oa with
      |[u0,u1],_=>rw[(hu 0 _ u0 rfl rfl).int_inv,(hu 1 _ u1 rfl rfl).bool_inv]
    cases hf:A0 l s with
    |false=>
     rw[hf]at fa;refine(aSD w l ao c s _ fa).mono ?_;rintro e w' ⟨rfl,hb⟩;refine⟨_,G,rfl,hb,λb h=>ca b (QF hb.size h),λ_ _=>rfl,?_⟩;rw[show Iy (nl,l,s)=_ from if_pos hf];refine .tup _ [_,_,_] rfl (λj d v z hv=>?_)
     match j,z,hv with
     |0,z,hv=>cases z;cases hv;exact F7 sa rfl ca hb (λ_ _=>Qg _)
     |1,z,hv=>cases z;cases hv;exact .nils _
     |2,z,hv=>cases z;cases hv;exact .int _ _
    |true=>
     rw[hf]at fa;have i:∀(wx:World)(v:Value)(ys:List Bs)(n:Bs),wx.ownsRow w.heap.size 9 1 v ys.length (ys.map encStr)->ys≠[]->ys.length<=1000->(v= .slice none 0 0↔ys=[])->Calls Qd 269 #[v,encStr n] wx λe w'=>e= .returned (.bool (Gn ys n))∧Below wx.heap.size wx w':=λwx v ys n ho ga qa ma=>by
      obtain⟨g,cap,rfl,ua,f,_⟩:=Lib.holds_of_ownsRow ho (λe=>ga (ma.1 e));refine(El (vs:=[.slice (some ⟨g,0,none⟩) ys.length cap,encStr n]) (G:=λb=>if b=g then ys.length else 0) aVv (aJA (nl:=false) (l:=ys) n O) rfl rfl rfl (λj d v z hv=>?_) (λb h=>if_neg O)).mono ?_
      ·match j,z,hv with
       |0,z,hv=>cases z;cases hv;exact My ho (by simp[Gh.base])
       |1,z,hv=>cases z;cases hv;exact .str _
      ·rintro e w' ⟨v,g',rfl,va,hR⟩;exact⟨by rw[hR.bool_inv],va⟩
     refine(aSC w G l ao c s _ rk ba ka hT fa i).mono ?_;rintro e w' ⟨gv,lv,ps,rfl,hb,a,wa,q,x,la,o⟩;have pa:(Cx l s).length=(Eb l l.length s).length:=Qu _;rw[←pa]at a;obtain⟨gb,cap,rfl,ua,f,_⟩:=Lib.holds_of_ownsRow a wa;have ea:=q.lt;rw[show Iy (nl,l,s)=_ from if_neg (show ¬A0 l s=false by rw[hf];decide)];have ga:lv.ownBlock≠some gb:=λe=>by
      rcases a.2 with ⟨h0,_⟩|⟨g',m,cur,hv,_,hh,_⟩
      ·cases h0
      ·grind [NG]
     have ja:=hb.size
     let G':Nat->Nat:=λb=>if b<w.heap.size then G b else if b=gb then(Cx l s).length else if some b=lv.ownBlock then ps.length*3 else 0
     have u:∀b,b<w.heap.size->G' b=G b:=λb h=>if_pos h
     refine⟨_,G',rfl,hb,λb h=>?_,u,?_⟩
     ·grind
     ·refine .tup _ [_,_,_] rfl (λj d v z hv=>?_)
      match j,z,hv with
      |0,z,hv=>
       cases z;cases hv;refine .agg _ [lv] rfl (λv hv=>?_) (λj d v z hv=>?_)
       ·rw[Zj.1 hv];rcases q.2 with ⟨h,_⟩|⟨_,_,_,h,_⟩<;>rw[h]<;>rfl
       ·match j,z,hv with
        |0,z,hv=>
         cases z;cases hv;have:=aHr (g:=Gh.base G') q x (λp hp=>F7 (o p hp) rfl ca hb (λb h=>Nat.le_of_eq (u b h).symm)) (λb k=>by
          show _<=(if _ then _ else _);rw[if_neg (by have:=(ea b k).1;omega),if_neg (λe=>ga (by rw[k,e])),if_pos k.symm];exact Qg _)
         rw[la]at this;exact this
      |1,z,hv=>
       cases z;cases hv;exact My a (by
        show _<=(if _ then _ else _);rw[if_neg O,if_pos rfl];exact Qg _)
      |2,z,hv=>cases z;cases hv;exact .int _ _
end Go.Vd
namespace Go.Vd
open Go.Proofs Go.RowKit
def aDd:=y2 f256 [] []
def aDl:=y2 f104 [] []
def aDh:=y2 f172 [] []
def aDg:=y2 f202 [] []
end Go.Vd
namespace Go.Vd
abbrev Kt:=List UInt8
abbrev Hp(a b:Kt):Bool:=Op.bytesLess a b
def CS:∀a:Kt,Hp a a=false
 |[]=>rfl
 |x::r=>by simp[Hp,Op.bytesLess];exact CS r
def LW:∀{a b:Kt},a≠b->Hp a b=!Hp b a
 |[],[],h=>absurd rfl h
 |[],y::s,_=>rfl
 |x::r,[],_=>rfl
 |x::r,y::s,h=>by
  simp only[Hp,Op.bytesLess];by_cases c:x=y
  ·have:=@LW r s (by intro e;exact h (by rw[c,e]));simp only[Hp]at this;simp_all
  ·grind
def Ck:∀{a b c:Kt},Hp a b=true->Hp b c=true->Hp a c=true
 |a,b,[],h1,h2=>by simp[Hp,Op.bytesLess]at h2
 |a,[],z::t,h1,h2=>by cases a<;>simp[Hp,Op.bytesLess]at h1
 |[],y::s,z::t,h1,h2=>rfl
 |x::r,y::s,z::t,h1,h2=>by
  simp only[Hp,Op.bytesLess,Zy,QB,decide_eq_true_eq,beq_iff_eq]at h1 h2 ⊢;rcases h1 with h1|⟨rfl,h1⟩
  ·grind
  ·rcases h2 with h2|⟨rfl,h2⟩
   ·left;exact h2
   ·right;exact⟨rfl,@Ck r s t h1 h2⟩
def C_{a b:Kt}(h:Hp a b=true):Hp b a=false:=by
 by_cases e:a=b
 ·subst e;rw[CS]at h;cases h
 ·have:=LW e;simp_all
inductive Tr where
 |nil
 |node (l:Tr) (k v:Kt) (r:Tr)
namespace Tr
def tall:Tr->Nat
 |nil=>0
 |node l _ _ r=>1+max l.tall r.tall
def cnt:Tr->Nat
 |nil=>0
 |node l _ _ r=>1+l.cnt+r.cnt
def wgt:Tr->Nat
 |nil=>0
 |node l k v r=>4+k.length+v.length+l.wgt+r.wgt
def lst:Tr->List (Kt×Kt)
 |nil=>[]
 |node l k v r=>l.lst++(k,v)::r.lst
def rotL:Tr->Tr
 |node l k v (node a x y b)=>node (node l k v a) x y b
 |t=>t
def rotR:Tr->Tr
 |node (node a x y b) k v r=>node a x y (node b k v r)
 |t=>t
def level(l:Tr)(k v:Kt)(r:Tr):Tr:=
 if r.tall+1<l.tall then
  match l with
  |node a x y b=>if a.tall<b.tall then rotR (node (rotL l) k v r)else rotR (node l k v r)
  |nil=>node l k v r
 else if l.tall+1<r.tall then
  match r with
  |node a x y b=>if b.tall<a.tall then rotL (node l k v (rotR r))else rotL (node l k v r)
  |nil=>node l k v r
 else node l k v r
def join(l:Tr)(k v:Kt)(r:Tr):Tr:=
 if r.tall+1<l.tall then
  match l with
  |node a x y b=>level a x y (join b k v r)
  |nil=>node l k v r
 else if l.tall+1<r.tall then
  match r with
  |node a x y b=>level (join l k v a) x y b
  |nil=>node l k v r
 else node l k v r
termination_by SizeOf.sizeOf l+SizeOf.sizeOf r
def put(k v:Kt):Tr->Tr
 |nil=>node nil k v nil
 |node l x y r=>if Hp k x then level (put k v l) x y r else if Hp x k then level l x y (put k v r)else node l k v r
def first:Tr->Kt->Kt->Tr->Kt×Kt×Tr
 |nil,k,v,r=>(k,v,r)
 |node a x y b,k,v,r=>let z:=first a x y b;(z.1,z.2.1,level z.2.2 k v r)
def both(l r:Tr):Tr:=
 match r with
 |nil=>l
 |node a x y b=>let z:=first a x y b;join l z.1 z.2.1 z.2.2
def split(q:Kt):Tr->Tr×Tr
 |nil=>(nil,nil)
 |node l x y r=>if Hp x q then let z:=split q r;(join l x y z.1,z.2)else let z:=split q l;(z.1,join z.2 x y r)
def get(q:Kt):Tr->Option Kt
 |nil=>none
 |node l x y r=>if Hp q x then get q l else if Hp x q then get q r else some y
def rank(q:Kt):Tr->Nat
 |nil=>0
 |node l x y r=>if Hp x q then 1+l.cnt+rank q r else rank q l
def at_:Tr->Nat->Option (Kt×Kt)
 |nil,_=>none
 |node l x y r,i=>if i<l.cnt then at_ l i else if l.cnt<i then at_ r (i-(l.cnt+1))else some (x,y)
def cR:∀t,(rotL t).lst=t.lst
 |nil=>rfl
 |node l k v nil=>rfl
 |node l k v (node a x y b)=>by simp[rotL,lst]
def cP:∀t,(rotR t).lst=t.lst
 |nil=>rfl
 |node nil k v r=>rfl
 |node (node a x y b) k v r=>by simp[rotR,lst]
def EW(l:Tr)(k v:Kt)(r:Tr):(level l k v r).lst=l.lst++(k,v)::r.lst:=by
 unfold level;split
 ·split
  ·split<;>simp[cP,lst,cR]
  ·rfl
 ·split
  ·split
   ·split<;>simp[cR,lst,cP]
   ·rfl
  ·rfl
def E9(l:Tr)(k v:Kt)(r:Tr):(join l k v r).lst=l.lst++(k,v)::r.lst:=by
 fun_induction join l k v r<;>simp_all [EW,lst]
def Gi:∀(l:Tr)(k v:Kt)(r:Tr),((first l k v r).1,(first l k v r).2.1)::(first l k v r).2.2.lst=l.lst++(k,v)::r.lst
 |nil,k,v,r=>rfl
 |node a x y b,k,v,r=>by
  have:=Gi a x y b;simp only[first,EW,lst];rw[←this];rfl
def cS(l r:Tr):(both l r).lst=l.lst++r.lst:=by
 unfold both;cases r with
 |nil=>simp[lst]
 |node a x y b=>
  have:=Gi a x y b;simp only[E9];rw[this];rfl
def Ord(l:List (Kt×Kt)):Prop:=l.Pairwise λa b=>Hp a.1 b.1=true
def pA{a b:List (Kt×Kt)}:Ord (a++b)↔Ord a∧Ord b∧∀x∈a,∀y∈b,Hp x.1 y.1=true:=List.pairwise_append
def U0{a b:List (Kt×Kt)}{k v:Kt}(h:Ord (a++(k,v)::b)):Ord a∧Ord b∧(∀x∈a,Hp x.1 k=true)∧(∀x∈b,Hp k x.1=true):=by
 obtain⟨u,f,i⟩:=pA.1 h;have p:=QN.1 f;exact⟨u,p.2,λx q=>i x q _ Qq,λx q=>p.1 x q⟩
def SA(l:List (Kt×Kt))(k v:Kt):List (Kt×Kt):=l.filter (λx=>Hp x.1 k)++(k,v)::l.filter (λx=>Hp k x.1)
def Eh{l:List (Kt×Kt)}{p:Kt×Kt->Bool}(h:∀x∈l,p x=true):l.filter p=l:=List.filter_eq_self.2 h
def GR{l:List (Kt×Kt)}{p:Kt×Kt->Bool}(h:∀x∈l,p x=false):l.filter p=[]:=Zx.2 λx q=>by rw[h x q];simp
def lst_put(k v:Kt):∀t:Tr,Ord t.lst->(put k v t).lst=SA t.lst k v
 |nil,_=>rfl
 |node l x y r,h=>by
  obtain⟨u,f,i,p⟩:=U0 h;unfold put;split
  ·rename_i c;rw[EW,lst_put k v l u];have n:r.lst.filter (λx=>Hp x.1 k)=[]:=GR λz o=>C_ (Ck c (p z o))
   have w:r.lst.filter (λx=>Hp k x.1)=r.lst:=Eh λz o=>Ck c (p z o)
   simp[SA,lst,Q0,Qk,c,C_ c,n,w]
  ·split
   ·rename_i b c;rw[EW,lst_put k v r f];have n:l.lst.filter (λx=>Hp x.1 k)=l.lst:=Eh λz o=>Ck (i z o) c
    have w:l.lst.filter (λx=>Hp k x.1)=[]:=GR λz o=>C_ (Ck (i z o) c)
    simp[SA,lst,Q0,Qk,c,C_ c,n,w]
   ·rename_i b c;have e:k=x:=by
     by_cases e:k=x
     ·exact e
     ·have:=LW e;simp_all
    subst e;have n:l.lst.filter (λx=>Hp x.1 k)=l.lst:=Eh i;have w:l.lst.filter (λx=>Hp k x.1)=[]:=GR λz o=>C_ (i z o)
    have d:r.lst.filter (λx=>Hp x.1 k)=[]:=GR λz o=>C_ (p z o)
    have j:r.lst.filter (λx=>Hp k x.1)=r.lst:=Eh p;simp[SA,lst,Q0,Qk,CS,n,w,d,j]
def lst_split(q:Kt):∀t:Tr,Ord t.lst->(split q t).1.lst=t.lst.filter (λx=>Hp x.1 q)∧(split q t).2.lst=t.lst.filter (λx=>!Hp x.1 q)
 |nil,_=>⟨rfl,rfl⟩
 |node l x y r,h=>by
  obtain⟨u,f,i,p⟩:=U0 h;unfold split;split
  ·rename_i c;obtain⟨a,b⟩:=lst_split q r f;have g:l.lst.filter (λx=>Hp x.1 q)=l.lst:=Eh λz o=>Ck (i z o) c
   have v:l.lst.filter (λx=>!Hp x.1 q)=[]:=GR λz o=>by rw[Ck (i z o) c];rfl
   simp[E9,a,b,lst,Q0,Qk,c,g,v]
  ·rename_i c;have c:Hp x q=false:=by simpa using c
   obtain⟨a,b⟩:=lst_split q l u;have n:∀z∈r.lst,Hp z.1 q=false:=λz o=>by
    cases hh:Hp z.1 q with
    |false=>rfl
    |true=>rw[Ck (p z o) hh]at c;cases c
   have g:r.lst.filter (λx=>Hp x.1 q)=[]:=GR n;have v:r.lst.filter (λx=>!Hp x.1 q)=r.lst:=Eh λz o=>by rw[n z o];rfl
   simp[E9,a,b,lst,Q0,Qk,c,g,v]
def cnt_lst:∀t:Tr,t.lst.length=t.cnt
 |nil=>rfl
 |node l k v r=>by simp[lst,cnt,cnt_lst l,cnt_lst r];omega
def at_lst:∀(t:Tr)(i:Nat),at_ t i=t.lst[i]?
 |nil,i=>by simp[at_,lst]
 |node l x y r,i=>by
  unfold at_;have w:=cnt_lst l;split
  ·rename_i c;rw[at_lst l i,lst,QQ O]
  ·split
   ·rename_i b c;rw[at_lst r,lst,Zk O,w];obtain⟨j,rfl⟩:∃j,i=l.cnt+1+j:=⟨i-(l.cnt+1),O⟩;rw[show l.cnt+1+j-l.cnt=j+1 by omega,Qm];congr 1;omega
   ·rename_i b c;have:i=l.cnt:=by omega
    rw[lst,Zk O,w,this];simp
def OQ(l:List (Kt×Kt))(q:Kt):Option Kt:=(l.find? λx=>x.1==q).map (·.2)
def get_lst(q:Kt):∀t:Tr,Ord t.lst->get q t=OQ t.lst q
 |nil,_=>rfl
 |node l x y r,h=>by
  obtain⟨u,f,i,p⟩:=U0 h;have n:∀{l:List (Kt×Kt)},(∀z∈l,z.1≠q)->l.find? (λx=>x.1==q)=none:=λm=>Zl.2 λz hz=>by simpa using m z hz
  unfold get;split
  ·rename_i c;have e:((x,y)::r.lst).find? (λx=>x.1==q)=none:=n λz hz e=>by
    rcases Qr.1 hz with rfl|hz
    ·simp only at e;subst e;rw[CS]at c;cases c
    ·have:=Ck c (p z hz);rw[e,CS]at this;cases this
   rw[get_lst q l u];simp only[OQ,lst,Zo,e,Option.or_none]
  ·split
   ·rename_i b c;have e:l.lst.find? (λx=>x.1==q)=none:=n λz hz e=>by
     have:=Ck (i z hz) c;rw[e,CS]at this;cases this
    have v:(x==q)=false:=by
     cases m:x==q with
     |false=>rfl
     |true=>have:=beq_iff_eq.1 m;subst this;rw[CS]at c;cases c
    rw[get_lst q r f];simp only[OQ,lst,Zo,e,Option.none_or,ZP,v]
   ·rename_i b c;have e:x=q:=by
     by_cases e:x=q
     ·exact e
     ·have:=LW e;simp_all
    subst e;have e:l.lst.find? (λz=>z.1==x)=none:=Zl.2 λz hz=>by
     intro e;have:=beq_iff_eq.1 e;have k:=i z hz;rw[this,CS]at k;cases k
    simp[OQ,lst,Zo,e,ZP]
end Tr
def aBu{P:Program}{f:FuncId}{N:Nat}{t:DC}{rs:List RV}(d:Fn P f N t rs):(Ac λ_=>none).ok P f:=by
 obtain⟨k,o,q,y,i,p,n,s⟩:=d.is;refine⟨⟨k,q,Xw,i⟩,λds m m' fr _=>rfl,?_⟩;intro a w0 w m g fr ds vs r u hi b hl c z;simp[Ac]at z
def nE(S:(List D->Option D)->GZ)(t:DC)(rs:List RV)(N:Nat):Nat->List D->Option D
 |0=>λ_=>none
 |n+1=>RF (S (nE S t rs N n)) t rs N
def aAS{P:Program}{f:FuncId}{N:Nat}{t:DC}{rs:List RV}{S:(List D->Option D)->GZ}(d:Fn P f N t rs)(g:∀G,(Ac G).ok P f->GZ.ok P (S G)):∀n,(Ac (nE S t rs N n)).ok P f
 |0=>aBu d
 |n+1=>Am d (g _ (aAS d g n))
def aHp{P:Program}{f:FuncId}{A:Nat->List D->Option D}(m:List D->Nat)(h:∀n,(Ac (A n)).ok P f):(Ac λds=>A (m ds) ds).ok P f:=by
 refine⟨(h 0).1,λds m m' fr _=>rfl,?_⟩;intro a w0 w m' g fr ds vs r u hi b hl y z;obtain⟨_,_,i⟩:=h (m (ds.map D.un));exact i hi b hl y (by simpa[Ac]using z)
def Hh:Tr->D
 | .nil=> .nilptr
 | .node l k v r=> .eptr [.str k,.str v,Hh l,Hh r,.int .i64 ((Tr.node l k v r).tall:Nat),.int .i64 ((Tr.node l k v r).cnt:Nat),.int .i64 ((Tr.node l k v r).wgt:Nat)]
def WK(t:Tr):(Hh t).calm=true:=Xj
def tY(t:Tr):(Hh t).calm1=true:=Xj
def aO1(t:Tr):(Hh t).un=Hh t:=Xj
def aGV(t:Tr):(Hh t).un1=Hh t:=Xj
def tW(t:Tr):(Hh t).cells=[Hh t]:=Xj
def Fs:∀{a b:Tr},Hh a=Hh b->a=b
 | .nil,.nil,_=>rfl
 | .nil,.node _ _ _ _,h=>by simp[Hh]at h
 | .node _ _ _ _,.nil,h=>by simp[Hh]at h
 | .node l k v r,.node l' k' v' r',h=>by
  simp only[Hh,D.eptr.injEq,Qo,D.str.injEq]at h;obtain⟨rfl,rfl,u,f,_⟩:=h;rw[Fs u,Fs f]
def D.dep:D->Nat
 | .eptr ds=>1+D.depL ds
 |_=>0
where D.depL:List D->Nat
 |[]=>0
 |d::ds=>max d.dep (D.depL ds)
def Lc:∀t:Tr,(Hh t).dep=t.tall
 | .nil=>rfl
 | .node l k v r=>by
  simp only[Hh,D.dep,D.dep.D.depL,Lc l,Lc r,Tr.tall];omega
def lX(ds:List D):Nat:=2*D.dep.D.depL ds+1
def RT(S:(List D->Option D)->GZ)(t:DC)(rs:List RV)(N:Nat)(ds:List D):Option D:=nE S t rs N (lX ds) ds
def oS{P:Program}{f:FuncId}{N:Nat}{t:DC}{rs:List RV}{S:(List D->Option D)->GZ}(d:Fn P f N t rs)(g:∀G,(Ac G).ok P f->GZ.ok P (S G)):(Ac (RT S t rs N)).ok P f:=
 aHp lX (aAS d g)
namespace Tr
def cT(a b:Kt):Hp a b=true∨a=b∨Hp b a=true:=by
 by_cases e:a=b
 ·exact .inr (.inl e)
 ·have:=LW e;cases h:Hp a b with
  |true=>exact .inl rfl
  |false=>rw[h]at this;exact .inr (.inr (by cases f:Hp b a<;>simp_all))
def aUM{a b:Kt}(h:Hp a b=true):(a==b)=false:=by
 cases hh:a==b with
 |false=>rfl
 |true=>have:=beq_iff_eq.1 hh;subst this;rw[CS]at h;cases h
def aPH{a b:Kt}(h:Hp a b=true):(b==a)=false:=by
 cases hh:b==a with
 |false=>rfl
 |true=>have:=beq_iff_eq.1 hh;subst this;rw[CS]at h;cases h
def ord_sub{a b:List (Kt×Kt)}(h:a.Sublist b)(k:Ord b):Ord a:=List.Pairwise.sublist h k
def aCL(q:Kt):∀{l:List (Kt×Kt)},Ord l->l.filter (λx=>Hp x.1 q)++l.filter (λx=>Hp q x.1)=l.filter (λx=>x.1 !=q)
 |[],_=>rfl
 |(k,v)::l,h=>by
  obtain⟨u,f⟩:=QN.1 h;have ih:=aCL q f;rcases cT k q with c|rfl|c
  ·simp only[bne]at ih ⊢;simp[Qk,c,C_ c,aUM c,ih]
  ·have n:l.filter (λx=>Hp x.1 k)=[]:=GR λz o=>C_ (u z o)
   rw[n]at ih;simp only[bne]at ih ⊢;simp[Qk,CS,n,←ih]
  ·have n:l.filter (λx=>Hp x.1 q)=[]:=GR λz o=>C_ (Ck c (u z o))
   rw[n]at ih;simp only[bne]at ih ⊢;simp[Qk,c,C_ c,aPH c,n,←ih]
def fil_ge{q v:Kt}:∀{l:List (Kt×Kt)},Ord l->(q,v)∈l->l.filter (λx=>!Hp x.1 q)=(q,v)::l.filter (λx=>Hp q x.1)
 |(k,w)::l,h,hm=>by
  obtain⟨u,f⟩:=QN.1 h;rcases Qr.1 hm with e|hm
  ·cases e;have n:l.filter (λx=>!Hp x.1 q)=l:=Eh λz o=>by rw[C_ (u z o)];rfl
   have y:l.filter (λx=>Hp q x.1)=l:=Eh λz o=>u z o
   simp[Qk,CS,n,y]
  ·have c:=u _ hm;simp only at c;simp[Qk,c,C_ c,fil_ge f hm]
def getL_some{l:List (Kt×Kt)}{q v:Kt}(h:OQ l q=some v):(q,v)∈l:=by
 unfold OQ at h;obtain⟨x,u,rfl⟩:=Qy.1 h;have f:=List.find?_some u;have i:=List.mem_of_find?_eq_some u;have:x.1=q:=by simpa using f
 rw[←this];exact i
def TL{l:List (Kt×Kt)}{q:Kt}(h:OQ l q=none):∀x∈l,x.1≠q:=by
 unfold OQ at h;have u:=Option.map_eq_none_iff.1 h;intro x d e;have:=Zl.1 u x d;simp[e]at this
def getL_mem{l:List (Kt×Kt)}(h:Ord l){q v:Kt}(a:(q,v)∈l):OQ l q=some v:=by
 cases hg:OQ l q with
 |none=>exact absurd rfl (TL hg _ a)
 |some w=>
  have t:=getL_some hg;rcases Classical.em (w=v)with e|e
  ·rw[e]
  ·exfalso;obtain⟨i,hi,p⟩:=QK a;obtain⟨j,d,n⟩:=QK t;rcases ZI i j with c|c|c
   ·have:=QD.1 h i j hi d c;rw[p,n,CS]at this;cases this
   ·subst c;rw[p]at n;cases n;exact e rfl
   ·have:=QD.1 h j i d hi c;rw[p,n,CS]at this;cases this
def delT(q:Kt)(t:Tr):Tr:=
 match get q t with
 |none=>t
 |some _=>match (split q t).2 with
  |nil=>(split q t).1
  |node a x y b=>both (split q t).1 (first a x y b).2.2
def lst_del(q:Kt)(t:Tr)(h:Ord t.lst):(delT q t).lst=t.lst.filter λx=>x.1 !=q:=by
 unfold delT;rw[get_lst q t h];cases hg:OQ t.lst q with
 |none=>exact(Eh λz o=>by simpa using TL hg z o).symm
 |some v=>
  have j:=getL_some hg;obtain⟨n,r⟩:=lst_split q t h;rw[fil_ge h j]at r;simp only;cases o:(split q t).2 with
  |nil=>rw[o]at r;cases r
  |node a x y b=>
   rw[o]at r;have d:=Gi a x y b;simp only[lst]at r;rw[r]at d;simp only[cS,n,(Z_ d).2,aCL q h]
def beyB:Kt->Option Kt
 |[]=>none
 |x::r=>match beyB r with
  |some e=>some (x::e)
  |none=>if x<255 then some [x+1]else none
def dropT(p:Kt)(t:Tr):Tr:=
 match beyB p with
 |none=>(split p t).1
 |some e=>both (split p t).1 (split e (split p t).2).2
def qK(p:Kt)(l:List (Kt×Kt)):List (Kt×Kt):=
 l.filter (λx=>Hp x.1 p)++match beyB p with
  |none=>[]
  |some e=>(l.filter λx=>!Hp x.1 p).filter λx=>!Hp x.1 e
def lst_drop(p:Kt)(t:Tr)(h:Ord t.lst):(dropT p t).lst=qK p t.lst:=by
 obtain⟨a,r⟩:=lst_split p t h;unfold dropT qK;cases beyB p with
 |none=>simp[a]
 |some e=>
  have:=(lst_split e (split p t).2 (by rw[r];exact ord_sub QX h)).2;simp only[cS,a,this,r]
def Vv(p:Kt):∀{l:List (Kt×Kt)},Ord l->l.filter (λx=>Hp x.1 p)++l.filter (λx=>!Hp x.1 p)=l
 |[],_=>rfl
 |(k,v)::l,h=>by
  obtain⟨u,f⟩:=QN.1 h;have ih:=Vv p f;cases c:Hp k p with
  |true=>simp[Qk,c,ih]
  |false=>
   have e:∀z∈l,Hp z.1 p=false:=λz o=>by
    cases hh:Hp z.1 p with
    |false=>rfl
    |true=>rw[Ck (u z o) hh]at c;cases c
   have n:l.filter (λx=>Hp x.1 p)=[]:=GR e;have w:l.filter (λx=>!Hp x.1 p)=l:=Eh λz o=>by rw[e z o];rfl
   simp only[Qk,c,n,w];rfl
def drop_sub(p:Kt){l:List (Kt×Kt)}(h:Ord l):(qK p l).Sublist l:=by
 unfold qK;have e:=Vv p h
 conv=>rhs;rw[←e]
 refine List.Sublist.append (List.Sublist.refl _) ?_;cases beyB p with
 |none=>exact List.nil_sublist _
 |some e=>exact QX
def ins_ord{l:List (Kt×Kt)}(h:Ord l)(k v:Kt):Ord (SA l k v):=by
 refine pA.2 ⟨ord_sub QX h,QN.2 ⟨λx q=>Yy,ord_sub QX h⟩,λx q y hy=>?_⟩;have w:Hp x.1 k=true:=Yy
 rcases Qr.1 hy with rfl|hy
 ·exact w
 ·exact Ck w (by simpa using (QS.1 hy).2)
def ins_mem{l:List (Kt×Kt)}{k v:Kt}{x:Kt×Kt}(h:x∈SA l k v):x=(k,v)∨x∈l:=by
 unfold SA at h;rcases QR.1 h with h|h
 ·exact .inr (QS.1 h).1
 ·rcases Qr.1 h with h|h
  ·exact .inl h
  ·exact .inr (QS.1 h).1
inductive Op1 where
 |put (k v:Kt)
 |del (k:Kt)
 |drop (k:Kt)
def costL(x:Kt×Kt):Nat:=36+x.1.length+min x.2.length 1048576
def weighL(l:List (Kt×Kt)):Nat:=4+(l.map costL).sum
def weigh_len:∀l:List (Kt×Kt),36*l.length+4<=weighL l
 |[]=>by simp[weighL]
 |y::l=>by
  have:=weigh_len l;simp only[weighL,QW,ZT,Qb,costL]at this ⊢;omega
def tall_cnt:∀t:Tr,t.tall<=t.cnt
 |nil=>Qg _
 |node l k v r=>by have:=tall_cnt l;have:=tall_cnt r;simp only[tall,cnt];omega
def sizeL(l:List (Kt×Kt)):Nat:=(l.map λx=>4+x.1.length+x.2.length).sum
def wgt_lst:∀t:Tr,t.wgt=sizeL t.lst
 |nil=>rfl
 |node l k v r=>by
  have:=wgt_lst l;have:=wgt_lst r;simp only[wgt,lst,sizeL,Zz,List.sum_append,QW,ZT]at *;omega
end Tr
end Go.Vd
namespace Go.Vd
open Go.Proofs Go.RowKit
def Lb:Hh .nil= .nilptr:=rfl
section
variable{S:GZ}{l r:Tr}{k v:Bs}
def aO0{K:D->Ha->Prop}{g:Tag K}:Lm (Hh (.node l k v r)) K g=K (Hh (.node l k v r)) []:=rfl
def aS5:Fg 0 (Hh (.node l k v r))=some (.eptr [.str k,.str v,Hh l,Hh r,.int .i64 ((Tr.node l k v r).tall:Nat),.int .i64 ((Tr.node l k v r).cnt:Nat),.int .i64 ((Tr.node l k v r).wgt:Nat)]):=rfl
def aS4:Fg 1 (Hh (.node l k v r))=some (.eptr [.str v,Hh l,Hh r,.int .i64 ((Tr.node l k v r).tall:Nat),.int .i64 ((Tr.node l k v r).cnt:Nat),.int .i64 ((Tr.node l k v r).wgt:Nat)]):=rfl
def aS3:Fg 2 (Hh (.node l k v r))=some (.eptr [Hh l,Hh r,.int .i64 ((Tr.node l k v r).tall:Nat),.int .i64 ((Tr.node l k v r).cnt:Nat),.int .i64 ((Tr.node l k v r).wgt:Nat)]):=rfl
def aS2:Fg 3 (Hh (.node l k v r))=some (.eptr [Hh r,.int .i64 ((Tr.node l k v r).tall:Nat),.int .i64 ((Tr.node l k v r).cnt:Nat),.int .i64 ((Tr.node l k v r).wgt:Nat)]):=rfl
def aS1:Fg 4 (Hh (.node l k v r))=some (.eptr [.int .i64 ((Tr.node l k v r).tall:Nat),.int .i64 ((Tr.node l k v r).cnt:Nat),.int .i64 ((Tr.node l k v r).wgt:Nat)]):=rfl
def aS0:Fg 5 (Hh (.node l k v r))=some (.eptr [.int .i64 ((Tr.node l k v r).cnt:Nat),.int .i64 ((Tr.node l k v r).wgt:Nat)]):=rfl
def aSZ:Fg 6 (Hh (.node l k v r))=some (.eptr [.int .i64 ((Tr.node l k v r).wgt:Nat)]):=rfl
def aSY:IF 1 (Hh (.node l k v r)) .nilptr=some false:=rfl
def aOY:IF 1 .nilptr .nilptr=some true:=rfl
def Ux(t:Tr):(Hh t).calm=true:=WK t
def WJ(t:Tr):(Hh t).calmR=true:=Xj
def aOZ(t:Tr):(Hh t).unR=Hh t:=Xj
def aGR(t:Tr):(Hh t).data=true:=Xj
def aHz:D.calm .nilptr=true:=rfl
def aUn:D.un .nilptr= .nilptr:=rfl
def aBs:D.cells .nilptr=[.nilptr]:=rfl
def aBt:D.calm1 .nilptr=true:=rfl
def aPA:D.un1 .nilptr= .nilptr:=rfl
end
def Hk:=Qs @aO0 <| Qs @aS5 <| Qs @aS4 <| Qs @aS3 <| Qs @aS2 <| Qs @aS1 <| Qs @aS0 <| Qs @aSZ <| Qs @aSY <| Qs @aOY <| Qs Ux <| Qs WJ <| Qs aOZ <| Qs aGR <| Qs aO1 <| Qs aGV <| Qs tY <| Qs tW <| Qs aHz <| Qs aUn <| Qs aBs <| Qs aBt <| Qs aPA Lb
def aW6:=Ao []
def gN:=RF aW6 aDd [.t 2] 9
def kO:Kq gN 256:=Am (Ai func256) Ad
def Dp(t:Tr):gN [Hh t]=some (.int .i64 (t.tall:Nat)):=by
 refine Al (Qa rfl) ?_;unfold aDd;cases t with
 |nil=>
  simp only[G7,↓C2,GY,simprocAttr,Hk,bne_self_eq_false]
  all_goals exact Y0
 |node l k v r=>
  simp only[G7,↓C2,GY,simprocAttr,Hk]
  all_goals exact Y0
def aXc:=Ao []
def Nq:=RF aXc aDl [.t 2] 9
def Vm:Kq Nq 104:=Am (Ai func104) Ad
def I5(t:Tr):Nq [Hh t]=some (.int .i64 (t.cnt:Nat)):=by
 refine Al (Qa rfl) ?_;unfold aDl;cases t with
 |nil=>
  simp only[G7,↓C2,GY,simprocAttr,Hk,bne_self_eq_false]
  all_goals exact Y0
 |node l k v r=>
  simp only[G7,↓C2,GY,simprocAttr,Hk]
  all_goals exact Y0
def aW9:=Ao []
def aE3:=RF aW9 aDh [.t 2] 9
def aB4:Kq aE3 172:=Am (Ai func172) Ad
def Sg(t:Tr):aE3 [Hh t]=some (.int .i64 (t.wgt:Nat)):=by
 refine Al (Qa rfl) ?_;unfold aDh;cases t with
 |nil=>
  simp only[G7,↓C2,GY,simprocAttr,Hk,bne_self_eq_false]
  all_goals exact Y0
 |node l k v r=>
  simp only[G7,↓C2,GY,simprocAttr,Hk]
  all_goals exact Y0
def mkN(p:Tr×Bs×Bs×Tr):List D:=[Hh p.1,.str p.2.1,.str p.2.2.1,Hh p.2.2.2]
def aHE(x y)(h:mkN x=mkN y):x=y:=by
 obtain⟨a,b,c,d⟩:=x;obtain⟨v,p,c',n⟩:=y;simp only[mkN,Qo,D.str.injEq,and_true]at h;obtain⟨u,rfl,rfl,f⟩:=h;rw[Fs u,Fs f]
def aLa(l:Tr)(k v:Bs)(r:Tr):Prop:=l.cnt+r.cnt<=1000000∧l.wgt+r.wgt+k.length+v.length<=1000000000000
def I9:List D->Option D:=FX mkN (λp=>aLa p.1 p.2.1 p.2.2.1 p.2.2.2) λp=>Hh (.node p.1 p.2.1 p.2.2.1 p.2.2.2)
def Hn{l:Tr}{k v:Bs}{r:Tr}(h:aLa l k v r):I9 [Hh l,.str k,.str v,Hh r]=some (Hh (.node l k v r)):=B5 (mk:=mkN) (a:=(l,k,v,r)) aHE h
def NI:Kq I9 202:=by
 obtain⟨S,g,hl⟩:=Bp (Aa kO (Aa Vm (Aa aB4 Ad)));have e:=hl 256 _ rfl;have z:=hl 104 _ rfl;have a:=hl 172 _ rfl;clear hl;refine aCB g (Ai func202:Fn Qd 202 39 aDg [.t 8]) (λ_=>by simp[mkN]) (λp c=>⟨WJ _,?_⟩);obtain⟨l,k,v,r⟩:=p;obtain⟨w,f⟩:=c;simp only at w f;have t1:=Tr.tall_cnt l;have t2:=Tr.tall_cnt r;have a1:=Dp l;have s:=Dp r;have u:=I5 l;have b:=I5 r;have c1:=Sg l;have d:=Sg r;have n:IntKind.i64.wrap (1+max (l.tall:Int) r.tall)=((1+max l.tall r.tall:Nat):Int):=Xh
 have y:IntKind.i64.wrap (1+(l.cnt:Int))=((1+l.cnt:Nat):Int):=Xh
 have e3:IntKind.i64.wrap (((1+l.cnt:Nat):Int)+r.cnt)=((1+l.cnt+r.cnt:Nat):Int):=Xh
 have e4:IntKind.i64.wrap (4+(k.length:Int))=((4+k.length:Nat):Int):=Xh
 have e5:IntKind.i64.wrap (((4+k.length:Nat):Int)+v.length)=((4+k.length+v.length:Nat):Int):=Xh
 have e6:IntKind.i64.wrap (((4+k.length+v.length:Nat):Int)+l.wgt)=((4+k.length+v.length+l.wgt:Nat):Int):=Xh
 have e7:IntKind.i64.wrap (((4+k.length+v.length+l.wgt:Nat):Int)+r.wgt)=((4+k.length+v.length+l.wgt+r.wgt:Nat):Int):=Xh
 unfold aDg mkN;simp only;simp only[G7,↓C2,GY,simprocAttr,Hk,Ab e,Ab z,Ab a,a1,s,u,b,c1,d,n,y,e3,e4,e5,e6,e7];refine .inl ⟨Ux _,.inl (.inr (.inr ⟨_,_,rfl,rfl,?_,?_⟩))⟩
 ·intro x q;simp only[Qr,Zp,or_false]at q;rcases q with rfl|rfl|rfl|rfl|rfl|rfl|rfl
  all_goals (first|rfl|exact Ux _)
 ·intro j x q;have hl:=(Qz.1 q).1;have c:=aE (m:=λ_ _=>none) (i:=[30]) (o:=0) (ds:=[D.str k,D.str v,Hh l,Hh r,D.int IntKind.i64 ((Tr.node l k v r).tall:Nat),D.int IntKind.i64 ((Tr.node l k v r).cnt:Nat),D.int IntKind.i64 ((Tr.node l k v r).wgt:Nat)]) (j:=j) hl;rw[Ql]at c;rw[←q];exact c
def aDc:=y2 f257 [(2,[(16,20),(16,24),(16,28)])] []
def aDb:=y2 Tryz.f258 [(2,[(28,3),(28,7),(28,11)])] []
def aDf:=y2 f203 [(1,[(4,8)]),(3,[(7,11),(7,14)]),(4,[(4,8),(4,12),(4,16)]),(7,[(7,11),(7,14)]),(8,[(16,3),(16,7),(16,11)])] []
namespace Tr
def cnt_level(l:Tr)(k v:Kt)(r:Tr):(level l k v r).cnt=1+l.cnt+r.cnt:=by
 rw[←cnt_lst,EW,Qj,Qb,cnt_lst,cnt_lst];omega
def cnt_join(l:Tr)(k v:Kt)(r:Tr):(join l k v r).cnt=1+l.cnt+r.cnt:=by
 rw[←cnt_lst,E9,Qj,Qb,cnt_lst,cnt_lst];omega
def Mn(a b:List (Kt×Kt)):sizeL (a++b)=sizeL a+sizeL b:=by simp[sizeL]
def size_cons(k v:Kt)(b:List (Kt×Kt)):sizeL ((k,v)::b)=4+k.length+v.length+sizeL b:=by simp[sizeL]
def wgt_level(l:Tr)(k v:Kt)(r:Tr):(level l k v r).wgt=4+k.length+v.length+l.wgt+r.wgt:=by
 rw[wgt_lst,EW,Mn,size_cons,wgt_lst l,wgt_lst r];omega
def wgt_join(l:Tr)(k v:Kt)(r:Tr):(join l k v r).wgt=4+k.length+v.length+l.wgt+r.wgt:=by
 rw[wgt_lst,E9,Mn,size_cons,wgt_lst l,wgt_lst r];omega
def cnt_first(l:Tr)(k v:Kt)(r:Tr):(first l k v r).2.2.cnt=l.cnt+r.cnt:=by
 have:=congrArg ZX (Gi l k v r);rw[Qb,Qj,Qb,cnt_lst,cnt_lst,cnt_lst]at this;omega
def wgt_first(l:Tr)(k v:Kt)(r:Tr):4+(first l k v r).1.length+(first l k v r).2.1.length+(first l k v r).2.2.wgt=4+k.length+v.length+l.wgt+r.wgt:=by
 have:=congrArg sizeL (Gi l k v r);rw[Mn,size_cons,size_cons,←wgt_lst,←wgt_lst,←wgt_lst]at this;omega
def GH(q:Kt):∀t:Tr,(split q t).1.lst++(split q t).2.lst=t.lst
 |nil=>rfl
 |node l x y r=>by
  unfold split;split
  ·have:=GH q r;simp only[E9,lst];rw[←this];simp
  ·have:=GH q l;simp only[E9,lst];rw[←this];simp
def cnt_split(q:Kt)(t:Tr):(split q t).1.cnt+(split q t).2.cnt=t.cnt:=by
 rw[←cnt_lst,←cnt_lst,←cnt_lst,←Qj,GH]
def wgt_split(q:Kt)(t:Tr):(split q t).1.wgt+(split q t).2.wgt=t.wgt:=by
 rw[wgt_lst,wgt_lst,wgt_lst t,←Mn,GH]
end Tr
def Wr(t:Tr):Prop:=t.cnt<=900000∧t.wgt<=900000000000
def aOa:=Ao [(202,Ac I9)]
def aE1:=RF aOa aDc [.t 2] 38
def aPZ:Kq aE1 257:=Am (Ai func257) (Aa NI Ad)
def Se{l:Tr}{k v:Bs}{a:Tr}{x y:Bs}{b:Tr}(h:Wr (.node l k v (.node a x y b))):aE1 [Hh (.node l k v (.node a x y b))]=some (Hh (.node (.node l k v a) x y b)):=by
 refine Al (Qa rfl) ?_;unfold aDc;simp only[Wr,Tr.cnt,Tr.wgt]at h;have n:=Hn (l:=l) (k:=k) (v:=v) (r:=a) ⟨O,O⟩;have w:=Hn (l:= .node l k v a) (k:=x) (v:=y) (r:=b) ⟨Xg,Xf⟩;simp only[G7,↓C2,GY,simprocAttr,Hk,Ae aOa 202,n,w]
 (refine As.intro (An ?_) ?_;first|rfl|simp[AX,AI,Hr,Aj,Ac])
 simp only[G7,↓C2,GY,simprocAttr,Hk]
 all_goals exact Y0
def aN9:=Ao [(202,Ac I9)]
def aE0:=RF aN9 aDb [.t 2] 38
def aPY:Kq aE0 258:=Am (Ai func258) (Aa NI Ad)
def Sd{a:Tr}{x y:Bs}{b:Tr}{k v:Bs}{r:Tr}(h:Wr (.node (.node a x y b) k v r)):aE0 [Hh (.node (.node a x y b) k v r)]=some (Hh (.node a x y (.node b k v r))):=by
 refine Al (Qa rfl) ?_;unfold aDb;simp only[Wr,Tr.cnt,Tr.wgt]at h;have n:=Hn (l:=b) (k:=k) (v:=v) (r:=r) ⟨O,O⟩;have w:=Hn (l:=a) (k:=x) (v:=y) (r:= .node b k v r) ⟨Xg,Xf⟩;simp only[G7,↓C2,GY,simprocAttr,Hk,Ae aN9 202,n,w]
 (refine As.intro (An ?_) ?_;first|rfl|simp[AX,AI,Hr,Aj,Ac])
 simp only[G7,↓C2,GY,simprocAttr,Hk]
 all_goals exact Y0
def D5:GZ:=Ao [(256,Ac gN),(257,Ac aE1),(258,Ac aE0),(202,Ac I9)]
def OG:List D->Option D:=RF D5 aDf [.t 2] 96
def kP:Kq OG 203:=Am (Ai func203) (Aa kO (Aa aPZ (Aa aPY (Aa NI Ad))))
def I4(l:Tr)(k v:Bs)(r:Tr)(h:Wr (.node l k v r)):OG [Hh (.node l k v r)]=some (Hh (Tr.level l k v r)):=by
 refine Al (Qa rfl) ?_;unfold aDf;have g:=Dp l;have e:=Dp r;have m1:=Tr.tall_cnt l;have m2:=Tr.tall_cnt r;have z:=h;simp only[Wr,Tr.cnt,Tr.wgt]at h;have j:IntKind.i64.wrap ((l.tall:Int)-r.tall)=(l.tall:Int)-r.tall:=Hu O O;unfold Tr.level;by_cases c1:r.tall+1<l.tall
 ·rw[if_pos c1];have t:((1:Int)<(l.tall:Int)-r.tall)=True:=eq_true O;cases l with
  |nil=>simp[Tr.tall]at c1
  |node a x y b=>
   have m:=Dp a;have i:=Dp b;simp only[Tr.cnt,Tr.wgt]at h;simp only;by_cases d:a.tall<b.tall
   ·rw[if_pos d];have f:((a.tall:Int)<b.tall)=True:=eq_true O;cases b with
    |nil=>simp[Tr.tall]at d
    |node p q s u=>
     simp only[Tr.cnt,Tr.wgt]at h;have n:=Se (l:=a) (k:=x) (v:=y) (a:=p) (x:=q) (y:=s) (b:=u) ⟨Xg,Xf⟩;have w:=Hn (l:= .node (.node a x y p) q s u) (k:=k) (v:=v) (r:=r) ⟨Xg,Xf⟩;have c:=Sd (a:= .node a x y p) (x:=q) (y:=s) (b:=u) (k:=k) (v:=v) (r:=r) ⟨Xg,Xf⟩;simp only[Tr.rotL,Tr.rotR];simp only[G7,↓C2,GY,simprocAttr,Hk,Ae D5 256,g,e,j]
     (refine As.intro (An ?_) ?_;first|rfl|simp[AX,AI,Hr,Aj,Ac])
     simp only[G7,↓C2,GY,simprocAttr,Hk,t,Ae D5 256,m,i]
     (refine As.intro (An ?_) ?_;first|rfl|simp[AX,AI,Hr,Aj,Ac])
     simp only[G7,↓C2,GY,simprocAttr,Hk,f,Ae D5 257,Ae D5 202,n,w]
     (refine As.intro (An ?_) ?_;first|rfl|simp[AX,AI,Hr,Aj,Ac])
     simp only[G7,↓C2,GY,simprocAttr,Hk,Ae D5 258,c]
     all_goals exact Y0
   ·rw[if_neg d];have f:((a.tall:Int)<b.tall)=False:=eq_false O;have c:=Sd (a:=a) (x:=x) (y:=y) (b:=b) (k:=k) (v:=v) (r:=r) z;simp only[Tr.rotR];simp only[G7,↓C2,GY,simprocAttr,Hk,Ae D5 256,g,e,j]
    (refine As.intro (An ?_) ?_;first|rfl|simp[AX,AI,Hr,Aj,Ac])
    simp only[G7,↓C2,GY,simprocAttr,Hk,t,Ae D5 256,m,i]
    (refine As.intro (An ?_) ?_;first|rfl|simp[AX,AI,Hr,Aj,Ac])
    simp only[G7,↓C2,GY,simprocAttr,Hk,f,Ae D5 258,c]
    all_goals exact Y0
 ·rw[if_neg c1];have t:((1:Int)<(l.tall:Int)-r.tall)=False:=eq_false O;by_cases o:l.tall+1<r.tall
  ·rw[if_pos o];have d3:((l.tall:Int)-r.tall< -1)=True:=eq_true O;cases r with
   |nil=>simp[Tr.tall]at o
   |node a x y b=>
    have m:=Dp a;have i:=Dp b;simp only[Tr.cnt,Tr.wgt]at h;simp only;by_cases d:b.tall<a.tall
    ·rw[if_pos d];have f:((b.tall:Int)<a.tall)=True:=eq_true O;cases a with
     |nil=>simp[Tr.tall]at d
     |node p q s u=>
      simp only[Tr.cnt,Tr.wgt]at h;have n:=Sd (a:=p) (x:=q) (y:=s) (b:=u) (k:=x) (v:=y) (r:=b) ⟨Xg,Xf⟩;have w:=Hn (l:=l) (k:=k) (v:=v) (r:= .node p q s (.node u x y b)) ⟨Xg,Xf⟩;have c:=Se (l:=l) (k:=k) (v:=v) (a:=p) (x:=q) (y:=s) (b:= .node u x y b) ⟨Xg,Xf⟩;simp only[Tr.rotL,Tr.rotR];simp only[G7,↓C2,GY,simprocAttr,Hk,Ae D5 256,g,e,j]
      (refine As.intro (An ?_) ?_;first|rfl|simp[AX,AI,Hr,Aj,Ac])
      simp only[G7,↓C2,GY,simprocAttr,Hk,t,d3,Ae D5 256,m,i]
      (refine As.intro (An ?_) ?_;first|rfl|simp[AX,AI,Hr,Aj,Ac])
      simp only[G7,↓C2,GY,simprocAttr,Hk,f,Ae D5 258,Ae D5 202,n,w]
      (refine As.intro (An ?_) ?_;first|rfl|simp[AX,AI,Hr,Aj,Ac])
      simp only[G7,↓C2,GY,simprocAttr,Hk,Ae D5 257,c]
      all_goals exact Y0
    ·rw[if_neg d];have f:((b.tall:Int)<a.tall)=False:=eq_false O;have c:=Se (l:=l) (k:=k) (v:=v) (a:=a) (x:=x) (y:=y) (b:=b) z;simp only[Tr.rotL];simp only[G7,↓C2,GY,simprocAttr,Hk,Ae D5 256,g,e,j]
     (refine As.intro (An ?_) ?_;first|rfl|simp[AX,AI,Hr,Aj,Ac])
     simp only[G7,↓C2,GY,simprocAttr,Hk,t,d3,Ae D5 256,m,i]
     (refine As.intro (An ?_) ?_;first|rfl|simp[AX,AI,Hr,Aj,Ac])
     simp only[G7,↓C2,GY,simprocAttr,Hk,f,Ae D5 257,c]
     all_goals exact Y0
  ·rw[if_neg o];have d3:((l.tall:Int)-r.tall< -1)=False:=eq_false O;simp only[G7,↓C2,GY,simprocAttr,Hk,Ae D5 256,g,e,j]
   (refine As.intro (An ?_) ?_;first|rfl|simp[AX,AI,Hr,Aj,Ac])
   simp only[G7,↓C2,GY,simprocAttr,Hk,t,d3]
   all_goals exact Y0
def NW:=y2 f233 [(2,[(19,3),(19,7),(19,11)]),(4,[(7,11),(7,15),(7,19)])] []
def NZ:=y2 f138 [(5,[(6,10),(6,14),(6,18)]),(7,[(18,3),(18,7),(18,11)])] []
def NX:=y2 f158 [] []
def aDk:=y2 f159 [] []
def NY:=y2 f157 [] []
def aVY(l r:Tr)(k v:Bs):l.tall+r.tall<lX [Hh l,.str k,.str v,Hh r]:=by
 simp only[lX,D.dep.D.depL,D.dep,Lc];omega
def Nm(G:List D->Option D):GZ:=Ao [(256,Ac gN),(202,Ac I9),(203,Ac OG),(233,Ac G)]
def gO:=RT Nm NW [.t 8] 72
def aB2:Kq gO 233:=oS (Ai func233) λG h=>Aa kO (Aa NI (Aa kP (Aa h Ad)))
def aLz:∀(n:Nat)(l:Tr)(k v:Bs)(r:Tr),l.tall+r.tall<n->Wr (.node l k v r)->nE Nm NW [.t 8] 72 n [Hh l,.str k,.str v,Hh r]=some (Hh (Tr.join l k v r))
 |0,l,k,v,r,h,_=>O
 |n+1,l,k,v,r,hn,h=>by
  show RF (Nm (nE Nm NW [.t 8] 72 n)) NW [.t 8] 72 _=_;refine Al (Qa rfl) ?_;have ih:=aLz n;generalize nE Nm NW [.t 8] 72 n=G at ih ⊢;have e:Nm G 256=some (Ac gN):=rfl;have c:Nm G 202=some (Ac I9):=rfl;have d:Nm G 203=some (Ac OG):=rfl;have f:Nm G 233=some (Ac G):=rfl;have q:=Dp l;have o:=Dp r;have m1:=Tr.tall_cnt l;have m2:=Tr.tall_cnt r;simp only[Wr,Tr.cnt,Tr.wgt]at h;have g:IntKind.i64.wrap ((r.tall:Int)+1)=(r.tall:Int)+1:=Hu O O;have w:IntKind.i64.wrap ((l.tall:Int)+1)=(l.tall:Int)+1:=Hu O O;unfold NW Tr.join;by_cases c1:r.tall+1<l.tall
  ·rw[if_pos c1];have j:((r.tall:Int)+1<l.tall)=True:=eq_true O;cases l with
   |nil=>simp[Tr.tall]at c1
   |node a x y b=>
    simp only[Tr.cnt,Tr.wgt]at h;have m:b.tall+r.tall<n:=by simp only[Tr.tall]at hn;omega
    have i:=ih b k v r m ⟨Xg,Xf⟩;have s:=Tr.cnt_join b k v r;have u:=Tr.wgt_join b k v r;have i2:=Hn (l:=a) (k:=x) (v:=y) (r:=Tr.join b k v r) ⟨O,O⟩;have i3:=I4 a x y (Tr.join b k v r) ⟨Xg,Xf⟩;simp only;simp only[G7,↓C2,GY,simprocAttr,Hk,Ab e,q,o,g,j,Ab f,Ab c,Ab d,i,i2,i3]
    (refine As.intro (An ?_) ?_;first|rfl|simp[AX,AI,Hr,Aj,Ac])
    simp only[G7,↓C2,GY,simprocAttr,Hk]
    all_goals exact Y0
  ·rw[if_neg c1];have j:((r.tall:Int)+1<l.tall)=False:=eq_false O;by_cases p:l.tall+1<r.tall
   ·rw[if_pos p];have z:((l.tall:Int)+1<r.tall)=True:=eq_true O;cases r with
    |nil=>simp[Tr.tall]at p
    |node a x y b=>
     simp only[Tr.cnt,Tr.wgt]at h;have m:l.tall+a.tall<n:=by simp only[Tr.tall]at hn;omega
     have i:=ih l k v a m ⟨Xg,Xf⟩;have s:=Tr.cnt_join l k v a;have u:=Tr.wgt_join l k v a;have i2:=Hn (l:=Tr.join l k v a) (k:=x) (v:=y) (r:=b) ⟨O,O⟩;have i3:=I4 (Tr.join l k v a) x y b ⟨Xg,Xf⟩;simp only;simp only[G7,↓C2,GY,simprocAttr,Hk,Ab e,q,o,g,w,j,z,Ab f,Ab c,Ab d,i,i2,i3]
     (refine As.intro (An ?_) ?_;first|rfl|simp[AX,AI,Hr,Aj,Ac])
     simp only[G7,↓C2,GY,simprocAttr,Hk]
     all_goals exact Y0
   ·rw[if_neg p];have z:((l.tall:Int)+1<r.tall)=False:=eq_false O;have i2:=Hn (l:=l) (k:=k) (v:=v) (r:=r) ⟨O,O⟩;simp only[G7,↓C2,GY,simprocAttr,Hk,Ab e,q,o,g,w,j,z,Ab c,i2]
    all_goals exact Y0
def Sf(l:Tr)(k v:Bs)(r:Tr)(h:Wr (.node l k v r)):gO [Hh l,.str k,.str v,Hh r]=some (Hh (Tr.join l k v r)):=aLz _ l k v r (aVY l r k v) h
def Vk{a b:Bs}:(C6 a b<0)=(Hp a b=true):=by
 unfold C6 Hp;by_cases h:Op.bytesLess a b=true
 ·rw[if_pos h,h];exact propext ⟨λ_=>rfl,λ_=>O⟩
 ·rw[if_neg h];refine propext ⟨λf=>?_,λf=>absurd f h⟩;split at f<;>omega
def VV{a b:Bs}:(0<C6 a b)=(Hp b a=true):=by
 unfold C6;by_cases h:Op.bytesLess a b=true
 ·rw[if_pos h];have:=C_ (a:=a) (b:=b) h;simp only[this];exact propext ⟨λh=>O,λh=>Xc⟩
 ·rw[if_neg h];by_cases e:a=b
  ·subst e;rw[if_pos rfl,CS];exact propext ⟨λh=>O,λh=>Xc⟩
  ·rw[if_neg e];have:=LW e;have z:Hp a b=false:=by simpa using h
   rw[z]at this;have f:Hp b a=true:=by
    cases hh:Hp b a with
    |true=>rfl
    |false=>rw[hh]at this;cases this
   rw[f];exact propext ⟨λ_=>rfl,λ_=>O⟩
def Nn(G:List D->Option D):GZ:=Ao [(62,Ac OT),(202,Ac I9),(203,Ac OG),(138,Ac G)]
def aE9:=RT Nn NZ [.t 6] 78
def aP2:Kq aE9 138:=oS (Ai func138) λG h=>Aa pH (Aa NI (Aa kP (Aa h Ad)))
def Nf(k v:Bs):∀t:Tr,(t.put k v).cnt<=1+t.cnt∧(t.put k v).wgt<=4+k.length+v.length+t.wgt
 | .nil=>by simp[Tr.put,Tr.cnt,Tr.wgt]
 | .node l x y r=>by
  have u:=Nf k v l;have f:=Nf k v r;unfold Tr.put;split
  ·rw[Tr.cnt_level,Tr.wgt_level];simp only[Tr.cnt,Tr.wgt];omega
  split
  ·rw[Tr.cnt_level,Tr.wgt_level];simp only[Tr.cnt,Tr.wgt];omega
  ·rename_i c1 p;have e:k=x:=by
    by_cases e:k=x
    ·exact e
    ·have:=LW e;simp_all
   subst e;simp only[Tr.cnt,Tr.wgt];omega
def aLC:∀(n:Nat)(t:Tr)(k v:Bs),t.tall<n->t.cnt<=800000->t.wgt+k.length+v.length<=800000000000->nE Nn NZ [.t 6] 78 n [Hh t,.str k,.str v]=some (Hh (t.put k v))
 |0,t,k,v,h,_,_=>O
 |n+1,t,k,v,hn,hc,hw=>by
  show RF (Nn (nE Nn NZ [.t 6] 78 n)) NZ [.t 6] 78 _=_;refine Al (Qa rfl) ?_;have ih:=aLC n;generalize nE Nn NZ [.t 6] 78 n=G at ih ⊢;have o:Nn G 62=some (Ac OT):=rfl;have c:Nn G 202=some (Ac I9):=rfl;have d:Nn G 203=some (Ac OG):=rfl;have a:Nn G 138=some (Ac G):=rfl;unfold NZ;cases t with
  |nil=>
   have i:=Hn (l:= .nil) (k:=k) (v:=v) (r:= .nil) ⟨by simp[Tr.cnt],by simp only[Tr.wgt]at hw ⊢;omega⟩;rw[Lb]at i;simp only[Tr.put];simp only[G7,↓C2,GY,simprocAttr,Hk,bne_self_eq_false,Ab c,i]
   all_goals exact Y0
  |node l x y r=>
   simp only[Tr.cnt,Tr.wgt,Tr.tall]at hn hc hw;have z:OT [.str k,.str x]=some (.int .i64 (C6 k x)):=rfl;have b:=Nf k v l;have u:=Nf k v r;unfold Tr.put;by_cases c1:Hp k x=true
   ·rw[if_pos c1];have j:(C6 k x<0)=True:=by rw[Vk];exact eq_true c1
    have i:=ih l k v O O O;have m:=Hn (l:=l.put k v) (k:=x) (v:=y) (r:=r) ⟨O,O⟩;have w:=I4 (l.put k v) x y r ⟨Xg,Xf⟩;simp only[G7,↓C2,GY,simprocAttr,Hk,Ab o,z,j,Ab a,Ab c,Ab d,i,m,w]
    (refine As.intro (An ?_) ?_;first|rfl|simp[AX,AI,Hr,Aj,Ac])
    simp only[G7,↓C2,GY,simprocAttr,Hk]
    all_goals exact Y0
   ·rw[if_neg c1];have j:(C6 k x<0)=False:=by rw[Vk];exact eq_false c1
    by_cases p:Hp x k=true
    ·rw[if_pos p];have f:(0<C6 k x)=True:=by rw[VV];exact eq_true p
     have i:=ih r k v O O O;have m:=Hn (l:=l) (k:=x) (v:=y) (r:=r.put k v) ⟨O,O⟩;have w:=I4 l x y (r.put k v) ⟨Xg,Xf⟩;simp only[G7,↓C2,GY,simprocAttr,Hk,Ab o,z,j,f,Ab a,Ab c,Ab d,i,m,w]
     (refine As.intro (An ?_) ?_;first|rfl|simp[AX,AI,Hr,Aj,Ac])
     simp only[G7,↓C2,GY,simprocAttr,Hk]
     all_goals exact Y0
    ·rw[if_neg p];have f:(0<C6 k x)=False:=by rw[VV];exact eq_false p
     have m:=Hn (l:=l) (k:=k) (v:=v) (r:=r) ⟨O,O⟩;simp only[G7,↓C2,GY,simprocAttr,Hk,Ab o,z,j,f,Ab c,m]
     (refine As.intro (An ?_) ?_;first|rfl|simp[AX,AI,Hr,Aj,Ac])
     simp only[G7,↓C2,GY,simprocAttr,Hk]
     all_goals exact Y0
def aE8(t:Tr)(k v:Bs)(w:t.cnt<=800000)(f:t.wgt+k.length+v.length<=800000000000):aE9 [Hh t,.str k,.str v]=some (Hh (t.put k v)):=
 aLC _ t k v YC w f
def aDt:=y2 f83 [] []
def aDs:=y2 f89 [] []
def aDr:=y2 f90 [] []
def M7:=y3 f39 2 [] []
def aDF:=y2 f39 [] [(2,M7)]
def M9:=y3 f27 2 [] []
def aDK:=y2 f27 [] [(2,M9)]
def M1:=y3 f49 3 [] []
def aDB:=y2 f49 [] [(3,M1)]
def M_:=y3 f50 4 [] []
def aDA:=y2 f50 [] [(4,M_)]
def aDn:=y2 f102 [] []
def aDm:=y2 f103 [] []
def MW:=y3 f160 2 [] []
def aDj:=y2 f160 [] [(2,MW)]
def aDz:=y2 f51 [] []
def OE(G:List D->Option D):GZ:=Ao [(202,Ac I9),(203,Ac OG),(158,Ac G)]
def sJ:=RT OE NX [.t 2,.t 3,.t 4] 48
def aB6:Kq sJ 158:=oS (Ai func158) λG h=>Aa NI (Aa kP (Aa h Ad))
def aQJ(z:Bs×Bs×Tr):D:= .tup [.str z.1,.str z.2.1,Hh z.2.2]
def aLA:∀(n:Nat)(l:Tr)(k v:Bs)(r:Tr),(Tr.node l k v r).tall<n->Wr (.node l k v r)->nE OE NX [.t 2,.t 3,.t 4] 48 n [Hh (.node l k v r)]=some (aQJ (Tr.first l k v r))
 |0,l,k,v,r,h,_=>O
 |n+1,l,k,v,r,hn,h=>by
  show RF (OE (nE OE NX [.t 2,.t 3,.t 4] 48 n)) NX [.t 2,.t 3,.t 4] 48 _=_;refine Al (Qa rfl) ?_;have ih:=aLA n;generalize nE OE NX [.t 2,.t 3,.t 4] 48 n=G at ih ⊢;have c:OE G 202=some (Ac I9):=rfl;have d:OE G 203=some (Ac OG):=rfl;have e:OE G 158=some (Ac G):=rfl;simp only[Wr,Tr.cnt,Tr.wgt]at h;unfold NX Tr.first;cases l with
  |nil=>
   unfold aQJ;simp only[G7,↓C2,GY,simprocAttr,Hk,bne_self_eq_false]
   (refine As.intro (An ?_) ?_;first|rfl|simp[AX,AI,Hr,Aj,Ac])
   simp only[G7,↓C2,GY,simprocAttr,Hk]
   all_goals exact Y0
  |node a x y b=>
   simp only[Tr.cnt,Tr.wgt]at h;have i:=ih a x y b (by simp only[Tr.tall]at hn ⊢;omega) ⟨Xg,Xf⟩;have s:=Tr.cnt_first a x y b;have o:=Tr.wgt_first a x y b;unfold aQJ at i ⊢;have m:=Hn (l:=(Tr.first a x y b).2.2) (k:=k) (v:=v) (r:=r) ⟨O,O⟩;have w:=I4 (Tr.first a x y b).2.2 k v r ⟨Xg,Xf⟩;simp only[G7,↓C2,GY,simprocAttr,Hk,Ab e,i,Ab c,Ab d,m,w]
   (refine As.intro (An ?_) ?_;first|rfl|simp[AX,AI,Hr,Aj,Ac])
   simp only[G7,↓C2,GY,simprocAttr,Hk]
   all_goals exact Y0
def gR(l:Tr)(k v:Bs)(r:Tr)(h:Wr (.node l k v r)):sJ [Hh (.node l k v r)]=some (.tup [.str (Tr.first l k v r).1,.str (Tr.first l k v r).2.1,Hh (Tr.first l k v r).2.2]):=
 aLA _ l k v r (by simp only[lX,D.dep.D.depL,Lc];omega) h
def aEO:=Ao [(158,Ac sJ),(233,Ac gO)]
def sI:=RF aEO aDk [.t 4] 22
def aB5:Kq sI 159:=Am (Ai func159) (Aa aB6 (Aa aB2 Ad))
def gP(l r:Tr)(w:l.cnt+r.cnt<=900000)(t:l.wgt+r.wgt<=900000000000):sI [Hh l,Hh r]=some (Hh (Tr.both l r)):=by
 refine Al (Qa rfl) ?_;unfold aDk;cases r with
 |nil=>
  simp only[G7,↓C2,GY,simprocAttr,Hk,bne_self_eq_false]
  all_goals exact Y0
 |node a x y b=>
  simp only[Tr.cnt,Tr.wgt]at w t;have i:=gR a x y b ⟨Xg,Xf⟩;have k:=Tr.cnt_first a x y b;have o:=Tr.wgt_first a x y b;have m:=Sf l (Tr.first a x y b).1 (Tr.first a x y b).2.1 (Tr.first a x y b).2.2 ⟨Xg,Xf⟩;unfold Tr.both;simp only;simp only[G7,↓C2,GY,simprocAttr,Hk,Ae aEO 158,i,Ae aEO 233,m]
  all_goals exact Y0
def R9(G:List D->Option D):GZ:=Ao [(233,Ac gO),(157,Ac G)]
def sK:=RT R9 NY [.t 4,.t 5] 66
def aB7:Kq sK 157:=oS (Ai func157) λG h=>Aa aB2 (Aa h Ad)
def aGZ(z:Tr×Tr):D:= .tup [Hh z.1,Hh z.2]
def aLB:∀(n:Nat)(t:Tr)(q:Bs),t.tall<n->Wr t->nE R9 NY [.t 4,.t 5] 66 n [Hh t,.str q]=some (aGZ (t.split q))
 |0,t,q,h,_=>O
 |n+1,t,q,hn,h=>by
  show RF (R9 (nE R9 NY [.t 4,.t 5] 66 n)) NY [.t 4,.t 5] 66 _=_;refine Al (Qa rfl) ?_;have ih:=aLB n;generalize nE R9 NY [.t 4,.t 5] 66 n=G at ih ⊢;have f:R9 G 233=some (Ac gO):=rfl;have a:R9 G 157=some (Ac G):=rfl;unfold NY;cases t with
  |nil=>
   unfold Tr.split aGZ;simp only[G7,↓C2,GY,simprocAttr,Hk,bne_self_eq_false]
   all_goals exact Y0
  |node l x y r=>
   simp only[Wr,Tr.cnt,Tr.wgt,Tr.tall]at hn h;unfold Tr.split;by_cases c1:Hp x q=true
   ·rw[if_pos c1];have i:=ih r q O ⟨O,O⟩;have k:=Tr.cnt_split q r;have o:=Tr.wgt_split q r;have m:=Sf l x y (r.split q).1 ⟨Xg,Xf⟩;unfold aGZ at i ⊢;have u:AP .lss (.str x) (.str q)=some (.bool (Hp x q)):=rfl;simp only[G7,↓C2,GY,simprocAttr,Hk,u,c1,Ab a,i,Ab f,m]
    (refine As.intro (An ?_) ?_;first|rfl|simp[AX,AI,Hr,Aj,Ac])
    simp only[G7,↓C2,GY,simprocAttr,Hk]
    all_goals exact Y0
   ·rw[if_neg c1];have c1:Hp x q=false:=by simpa using c1
    have i:=ih l q O ⟨O,O⟩;have k:=Tr.cnt_split q l;have o:=Tr.wgt_split q l;have m:=Sf (l.split q).2 x y r ⟨Xg,Xf⟩;unfold aGZ at i ⊢;have u:AP .lss (.str x) (.str q)=some (.bool (Hp x q)):=rfl;simp only[G7,↓C2,GY,simprocAttr,Hk,u,c1,Ab a,i,Ab f,m]
    (refine As.intro (An ?_) ?_;first|rfl|simp[AX,AI,Hr,Aj,Ac])
    simp only[G7,↓C2,GY,simprocAttr,Hk]
    all_goals exact Y0
def Sh(t:Tr)(q:Bs)(h:Wr t):sK [Hh t,.str q]=some (.tup [Hh (t.split q).1,Hh (t.split q).2]):=
 aLB _ t q YC h
def aOc:=Ao [(104,Ac Nq)]
def aOq:=RF aOc aDn [.t 2] 6
def aP4:Kq aOq 102:=Am (Ai func102) (Aa Vm Ad)
def aFb(t:Tr):aOq [.agg [Hh t]]=some (.int .i64 (t.cnt:Nat)):=by
 refine Al (Qa rfl) ?_;unfold aDn;have h:=I5 t;simp only[G7,↓C2,GY,simprocAttr,Hk,Ae aOc 104,h]
 all_goals exact Y0
def aOb:=Ao [(172,Ac aE3)]
def aOp:=RF aOb aDm [.t 2] 6
def aP3:Kq aOp 103:=Am (Ai func103) (Aa aB4 Ad)
def aFa(t:Tr):aOp [.agg [Hh t]]=some (.int .i64 (t.wgt:Nat)):=by
 refine Al (Qa rfl) ?_;unfold aDm;have h:=Sg t;simp only[G7,↓C2,GY,simprocAttr,Hk,Ae aOb 172,h]
 all_goals exact Y0
def aOd:=Ao [(138,Ac aE9)]
def sM:=RF aOd aDt [.cell (some 1) 6] 13
def aB9:Kq sM 83:=Am (Ai func83) (Aa aP2 Ad)
def Nr(t:Tr)(k v:Bs)(w:t.cnt<=800000)(f:t.wgt+k.length+v.length<=800000000000):sM [.agg [Hh t],.str k,.str v]=some (.agg [Hh (t.put k v)]):=by
 refine Al (Qa rfl) ?_;unfold aDt;have h:=aE8 t k v w f;simp only[G7,↓C2,GY,simprocAttr,Hk,Ae aOd 138,h]
 all_goals exact Y0
def Rh{S:GZ}{q:Bs}{Q:Ex->St->Prop}(o:S 62=some (Ac OT)):∀(t:Tr)(st:St) g,st.s 1= .str q->st.s 6=Hh t->(∀v p,t.get q=some v->p.s 4= .str v->p.s 5= .bool true->Q .ret p)->(t.get q=none->∀p,Q (.exit 0) p)->Ba S [] M9 Q st g
 | .nil,st,g,h1,h6,hr,he=>by
  refine Af M9.eq_1 ?_;simp only[G7,↓C2,GY,simprocAttr,Hk,h1,h6,bne_self_eq_false];exact he rfl _
 | .node l x y r,st,g,h1,h6,hr,he=>by
  have i:=Rh (q:=q) (Q:=Q) o l;have m:=Rh (q:=q) (Q:=Q) o r;have z:OT [.str q,.str x]=some (.int .i64 (C6 q x)):=rfl;refine Af M9.eq_1 ?_;obtain⟨e,b,c⟩:=st;simp only at h1 h6;unfold Tr.get at hr he;by_cases c1:Hp q x=true
  ·rw[if_pos c1]at hr he;have j:(C6 q x<0)=True:=by rw[Vk];exact eq_true c1
   simp only[G7,↓C2,GY,simprocAttr,Hk,h1,h6,I_,Ab o,z,j];exact i _ _ h1 rfl hr he
  ·rw[if_neg c1]at hr he;have j:(C6 q x<0)=False:=by rw[Vk];exact eq_false c1
   by_cases d:Hp x q=true
   ·rw[if_pos d]at hr he;have f:(0<C6 q x)=True:=by rw[VV];exact eq_true d
    simp only[G7,↓C2,GY,simprocAttr,Hk,h1,h6,Ab o,z,j,f];exact m _ _ h1 rfl hr he
   ·rw[if_neg d]at hr he;have f:(0<C6 q x)=False:=by rw[VV];exact eq_false d
    simp only[G7,↓C2,GY,simprocAttr,Hk,h1,h6,Ab o,z,j,f];exact hr y _ rfl rfl rfl
def aOn:=Ao [(62,Ac OT)]
def aFH:=RF aOn aDK [.t 4,.t 5] 36
def aCc:Kq aFH 27:=Am (Ai func27) (Aa pH Ad)
def gY(t:Tr)(q:Bs):aFH [.agg [Hh t],.str q]=some (.tup [.str ((t.get q).getD []),.bool (t.get q).isSome]):=by
 refine Al (Qa rfl) ?_;have r:aOn 62=some (Ac OT):=rfl;unfold aDK;simp only[G7,↓C2,GY,simprocAttr,Hk];refine Rh (q:=q) r t _ _ rfl rfl (λv x a p m=>?_) (λa x=>?_)
 ·rw[a];simp only[G7,↓C2,GY,simprocAttr,p,m]
  all_goals exact Y0
 ·rw[a];simp only[G7,↓C2,GY,simprocAttr]
  all_goals exact Y0
def Rg{S:GZ}{q:Bs}{Q:Ex->St->Prop}(z:S 104=some (Ac Nq)):∀(t:Tr)(r:Nat)(v:St) g,t.cnt<=900000->r+t.cnt<=900000->v.s 1= .str q->v.s 5= .int .i64 (r:Int)->v.s 6=Hh t->(∀p,p.s 5= .int .i64 ((r+t.rank q:Nat):Int)->Q (.exit 0) p)->Ba S [] M1 Q v g
 | .nil,r,v,g,hc,hr,h1,h5,h6,he=>by
  refine Af M1.eq_1 ?_;simp only[G7,↓C2,GY,simprocAttr,Hk,h1,h6,bne_self_eq_false];exact he _ h5
 | .node l x y t,r,v,g,hc,hr,h1,h5,h6,he=>by
  have i:=Rg (q:=q) (Q:=Q) z l;have m:=Rg (q:=q) (Q:=Q) z t;have a:=I5 l;simp only[Tr.cnt]at hc hr;have n:IntKind.i64.wrap (1+(l.cnt:Int))=((1+l.cnt:Nat):Int):=Xh
  have w:IntKind.i64.wrap ((r:Int)+((1+l.cnt:Nat):Int))=((r+(1+l.cnt):Nat):Int):=Xh
  refine Af M1.eq_1 ?_;obtain⟨e,b,c⟩:=v;simp only at h1 h5 h6;have u:AP .lss (.str x) (.str q)=some (.bool (Hp x q)):=rfl;unfold Tr.rank at he;by_cases c1:Hp x q=true
  ·rw[if_pos c1]at he;simp only[G7,↓C2,GY,simprocAttr,Hk,h1,h5,h6,I_,u,c1,Ab z,a,n,w];exact m (r+(1+l.cnt)) _ _ O O h1 rfl rfl (λp h=>he p (by rw[h];congr 2;omega))
  ·rw[if_neg c1]at he;have c1:Hp x q=false:=by simpa using c1
   simp only[G7,↓C2,GY,simprocAttr,Hk,h1,h5,h6,I_,u,c1];exact i r _ _ O O h1 h5 rfl he
def aOk:=Ao [(104,Ac Nq)]
def aOu:=RF aOk aDB [.t 4] 34
def aQi:Kq aOu 49:=Am (Ai func49) (Aa Vm Ad)
def aFu(t:Tr)(q:Bs)(w:t.cnt<=900000):aOu [.agg [Hh t],.str q]=some (.int .i64 (t.rank q:Nat)):=by
 refine Al (Qa rfl) ?_;have z:aOk 104=some (Ac Nq):=rfl;unfold aDB;simp only[G7,↓C2,GY,simprocAttr,Hk];refine Rg (q:=q) z t 0 _ _ w O rfl rfl rfl (λx h=>?_);rw[Ql]at h;simp only[G7,↓C2,GY,simprocAttr,h]
 all_goals exact Y0
def atD(z:Option (Bs×Bs)):D:= .tup [.str (z.getD ([],[])).1,.str (z.getD ([],[])).2,.bool z.isSome]
def Rf{S:GZ}{Q:Ex->St->Prop}(z:S 104=some (Ac Nq)):∀(t:Tr)(i:Nat)(st:St) g,t.cnt<=900000->i<=900000->st.s 1= .int .i64 (i:Int)->st.s 7=Hh t->(∀k v p,t.at_ i=some (k,v)->p.s 4= .str k->p.s 5= .str v->p.s 6= .bool true->Q .ret p)->(t.at_ i=none->∀p,Q (.exit 0) p)->Ba S [] M_ Q st g
 | .nil,i,st,g,hc,hi,h1,h7,hr,he=>by
  refine Af M_.eq_1 ?_;simp only[G7,↓C2,GY,simprocAttr,Hk,h1,h7,bne_self_eq_false];exact he rfl _
 | .node l x y r,i,st,g,hc,hi,h1,h7,hr,he=>by
  have m:=Rf (Q:=Q) z l;have o:=Rf (Q:=Q) z r;have a:=I5 l;simp only[Tr.cnt]at hc;have n:IntKind.i64.wrap ((l.cnt:Int)+1)=(l.cnt:Int)+1:=Hu O O;refine Af M_.eq_1 ?_;obtain⟨e,b,c⟩:=st;simp only at h1 h7;unfold Tr.at_ at hr he;by_cases c1:i<l.cnt
  ·rw[if_pos c1]at hr he;have j:((i:Int)<l.cnt)=True:=eq_true O;simp only[G7,↓C2,GY,simprocAttr,Hk,h1,h7,I_,Ab z,a,j];exact m i _ _ O hi h1 rfl hr he
  ·rw[if_neg c1]at hr he;have j:((i:Int)<l.cnt)=False:=eq_false O;by_cases d:l.cnt<i
   ·rw[if_pos d]at hr he;have f:((l.cnt:Int)<i)=True:=eq_true O;have w:IntKind.i64.wrap ((i:Int)-((l.cnt:Int)+1))=((i-(l.cnt+1):Nat):Int):=by rw[Hu O O];omega
    simp only[G7,↓C2,GY,simprocAttr,Hk,h1,h7,I_,Ab z,a,j,f,n,w];exact o (i-(l.cnt+1)) _ _ O O rfl rfl hr he
   ·rw[if_neg d]at hr he;have f:((l.cnt:Int)<i)=False:=eq_false O;simp only[G7,↓C2,GY,simprocAttr,Hk,h1,h7,I_,Ab z,a,j,f]
    (refine As.intro (An ?_) ?_;first|rfl|simp[AX,AI,Hr,Aj,Ac])
    simp only[G7,↓C2,GY,simprocAttr,Hk];exact hr x y _ rfl rfl rfl rfl
def aOj:=Ao [(104,Ac Nq)]
def aOt:=RF aOj aDA [.t 4,.t 5,.t 6] 48
def aQh:Kq aOt 50:=Am (Ai func50) (Aa Vm Ad)
def aFt(t:Tr)(i:Nat)(w:t.cnt<=900000)(hi:i<=900000):aOt [.agg [Hh t],.int .i64 (i:Nat)]=some (atD (t.at_ i)):=by
 refine Al (Qa rfl) ?_;have z:aOj 104=some (Ac Nq):=rfl;unfold aDA;have h0:((i:Int)<0)=False:=eq_false O;simp only[G7,↓C2,GY,simprocAttr,Hk,h0];refine Rf z t i _ _ w hi rfl rfl (λk v x a p m s=>?_) (λa x=>?_)
 ·rw[a];unfold atD;simp only[G7,↓C2,GY,simprocAttr,p,m,s]
  all_goals exact Y0
 ·rw[a];unfold atD;simp only[G7,↓C2,GY,simprocAttr]
  all_goals exact Y0
def fS(x:UInt8):∀l:Bs,Tr.beyB (l++[x])=if x<255 then some (l++[x+1])else Tr.beyB l
 |[]=>by
  show(match Tr.beyB []with|some e=>some (x::e)|none=>if x<255 then some [x+1]else none)=_;rfl
 |y::l=>by
  have ih:=fS x l;show(match Tr.beyB (l++[x])with|some e=>some (y::e)|none=>if y<255 then some [y+1]else none)=_;rw[ih];by_cases c:x<255
  ·rw[if_pos c,if_pos c];rfl
  ·rw[if_neg c,if_neg c];rfl
def cW{S:GZ}{p:Bs}{Q:Ex->St->Prop}(k:p.length<=1000000):∀(j:Nat)(y:St) g,j<=p.length->y.s 0= .str p->y.s 4= .int .i64 ((j:Int)-1)->(∀e r,Tr.beyB (p.take j)=some e->r.s 2= .str e->r.s 3= .bool true->Q .ret r)->(Tr.beyB (p.take j)=none->∀r,Q (.exit 0) r)->Ba S [] MW Q y g
 |0,y,g,hj,h0,h4,hr,he=>by
  refine Af MW.eq_1 ?_;have u:y.s 4= .int .i64 (-1):=h4;have t:((0:Int)<=-1)=False:=eq_false V;simp only[G7,↓C2,GY,simprocAttr,h0,u,t];exact he rfl _
 |j+1,y,g,hj,h0,h4,hr,he=>by
  have ih:=cW (S:=S) (Q:=Q) k j;refine Af MW.eq_1 ?_;obtain⟨w,b,da⟩:=y;simp only at h0 h4;have d:((j+1:Nat):Int)-1=(j:Int):=O
  rw[d]at h4;have t:((0:Int)<=(j:Int))=True:=eq_true O;have q:p[j]?=some (p[j]' O):=Qf O;generalize (p[j]' O)=x at q;have a:p.take (j+1)=p.take j++[x]:=by rw[Zc,q];rfl
  rw[a,fS]at hr he;have n:IntKind.i64.wrap ((j:Int)-1)=(j:Int)-1:=Hu O O;by_cases c:x<255
  ·rw[if_pos c]at hr he;have c':x.toNat<255:=c;have z:((x.toNat:Int)<255)=True:=eq_true O;have v:IntKind.u8.wrap ((x.toNat:Int)+1)=((x.toNat+1:Nat):Int):=by
    show((x.toNat:Int)+1) % 256=_;omega
   have o:UInt8.ofNat (x.toNat+1)=x+1:=by
    apply UInt8.toNat_inj.1;rw[UInt8.toNat_ofNat',UInt8.toNat_add];rfl
   have ia:((j:Int)<=p.length)=True:=eq_true O;have f:AP .add (.str (p.take j)) (.str [x+1])=some (.str (p.take j++[x+1])):=I1 (by rw[Q6];simp only[Qb,Qh];omega);simp only[G7,↓C2,GY,simprocAttr,h0,h4,t,ia,q,z,v,o,Qn,QL,QZ,and_self,f]
   (refine As.intro (An ?_) ?_;first|rfl|simp[AX,AI,Hr,Aj,Ac])
   simp only[G7,↓C2,GY,simprocAttr];exact hr _ _ rfl rfl rfl
  ·rw[if_neg c]at hr he;have c':¬x.toNat<255:=c;have z:((x.toNat:Int)<255)=False:=eq_false O;simp only[G7,↓C2,GY,simprocAttr,h0,h4,t,q,z,n,Qn];exact ih _ _ O h0 rfl hr he
def aOi:=Ao [(105,Ac zH)]
def aOs:=RF aOi aDz [.t 4] 8
def aQg:Kq aOs 51:=Am (Ai func51) (Aa aKZ Ad)
def aFs(s t:Bs):aOs [.str s,.str t]=some (.bool (B7 s t)):=by
 refine Al (Qa rfl) ?_;unfold aDz;have h:zH [.str s,.str t]=some (.bool (B7 s t)):=rfl;simp only[G7,↓C2,GY,simprocAttr,Ae aOi 105,h]
 all_goals exact Y0
theorem qZ{a:Ak}:∀{l:Bs} {b:Ak},(LA a b l).1=0->∀c∈l,A7 a (c.toNat:Int)=0
 |[],b,h,c,hc=>by cases hc
 |x::r,b,h,c,hc=>by
  unfold LA at h;split at h
  ·omega
  ·rename_i u;rcases Qr.1 hc with rfl|hc
   ·exact Decidable.not_not.1 u
   ·exact qZ h c hc
def OA{a:Ak}(h:BQ a=0){c:UInt8}(w:c∈Bk a.op):A7 a (c.toNat:Int)=0:=by
 grind [BQ,qZ]
def RN{a:Ak}(h:BQ a=0)(w:(112:UInt8)∈Bk a.op):AF a.pa=0:=OA h w
def fH{a:Ak}(h:BQ a=0)(w:(113:UInt8)∈Bk a.op):AF a.ot=0:=OA h w
def vY:∀op:Nat,9<=op->op<=18->(112:UInt8)∈Bk (op:Int):=by
 intro op u f;have:∀op,op<19->9<=op->(112:UInt8)∈Bk (op:Nat):=Xi
 exact this op O u
def aHq{a:Ak}(h:BQ a=0)(u:9<=a.op)(f:a.op<=18):AF a.pa=0:=by
 have:=vY a.op.toNat O O;rw[QJ O]at this;exact RN h this
def aBd{a:Ak}(h:BQ a=0)(u:a.op=18):AF a.ot=0:=by
 refine fH h ?_;rw[u];decide+kernel
theorem CB{s:Bs}(h:AF s=0):s.length<=64:=by
 grind [AF]
def aS7{y:Ry}(h:H3 y=0):HD y≠[]:=by
 unfold HD;rw[if_pos h];intro e;have f:=jG y;cases y<;>simp[HE,spJ,Lib.join]at e<;>(try split at e)<;>simp[]at e
def Gr(s:Bs):Prop:=∃y,H3 y=0∧oO y∧s=HD y
def Gr.ne{s:Bs}:Gr s->s≠[]:=λ⟨y,h,_,e⟩=>by rw[e];exact aS7 h
def Wo(s:Bs):Prop:=∀c∈s,c≠32∧c≠44
def fG{s:Bs}(h:∀j,j<s.length->Ho s j≠32∧Ho s j≠44):Wo s:=λc w=>by
 obtain⟨j,d,rfl⟩:=QK w;have:=h j d;unfold Ho at this;rw[QP,Qf d]at this;simp only[Q7]at this;exact⟨λe=>by rw[e]at this;exact this.1 rfl,λe=>by rw[e]at this;exact this.2 rfl⟩
theorem xJ{s:Bs}(h:Wo s):Oo s 32=false∧Oo s 44=false:=by
 constructor<;>(unfold Oo;rw[Zn];intro c w;simp only[beq_iff_eq])
 ·exact(h c w).1
 ·exact(h c w).2
def jW{s:Bs}(h:Wo s)(u:s≠[])(f:s≠[45])(i:s.length<=64):Vb s=true:=by
 grind [Vb,xJ]
def jY{s:Bs}{i:Nat}(hi:i<s.length)(h:E7 (Gf s i).1=true):1<=(Gf s i).2∧∀j,i<=j->j<i+(Gf s i).2->Ho s j≠32∧Ho s j≠44:=by
 grind [R0,FZ,Gf,E7]
def Od{s:Bs}:∀(f p n:Nat),s.length<=p+f->Ez s f p n≠4->∀j,p<=j->j<s.length->Ho s j≠32∧Ho s j≠44
 |0,p,n,hf,h,j,h1,h2=>O
 |f+1,p,n,hf,h,j,h1,h2=>by
  unfold Ez at h;rw[if_pos O]at h;split at h
  ·rename_i i;obtain⟨t,w⟩:=jY O i;by_cases d:j<p+(Gf s p).2
   ·exact w j h1 d
   ·exact Od f _ _ O h j O h2
  ·exact absurd rfl h
def jP{s:Bs}(h:Gb s=0):Wo s∧s≠[]∧s≠[45]:=by
 unfold Gb at h;split at h
 ·cases h
 ·rename_i u;exact⟨fG λj d=>Od s.length 0 0 O (by rw[h];decide) j (Qi _) d,λe=>u (.inl e),λe=>u (.inr (.inr (.inr e)))⟩
theorem grade_parts:∀{l:List Bs} {w:Bool},FR w l=some false->∀p∈l,Gb p=0
 |[],w,h,p,hp=>by cases hp
 |x::r,w,h,p,hp=>by
  unfold FR at h;split at h
  ·cases h
  ·rename_i u;have m:∀{w:Bool} {l:List Bs},FR w l=some false->w=false:=by
    intro w l;induction l generalizing w with
    |nil=>intro h;simpa[FR]using h
    |cons y t ih=>
     intro h;unfold FR at h;split at h
     ·cases h
     ·grind
   rcases Qr.1 hp with rfl|hp
   ·grind [Ok]
   ·exact grade_parts h p hp
def W6{s:Bs}(h:AF s=0):∀p∈splitC 47 s,Gb p=0:=by
 grind [AF,IR,grade_parts]
def S6:∀(a b:Bs),splitC 47 (a++47::b)=splitC 47 a++splitC 47 b
 |[],b=>by
  show splitC 47 (47::b)=_
  conv=>lhs;unfold splitC
  rfl
 |c::r,b=>by
  have ih:=S6 r b;show splitC 47 (c::(r++47::b))=_
  conv=>lhs;unfold splitC
  conv=>rhs;arg 1;unfold splitC
  rw[ih];split
  ·rfl
  ·grind [splitC,Ci]
def S7:∀(s:Bs),∃t,splitC 47 s=(BB s 47).1::t∧((BB s 47).2.2=true->(BB s 47).1.length+1<=s.length)∧((BB s 47).2.2=false->(BB s 47).1=s)
 |[]=>⟨[],rfl,λh=>by simp[BB,Lib.indexByte]at h,λ_=>rfl⟩
 |c::r=>by
  obtain⟨t,u,f,i⟩:=S7 r;by_cases m:c=47
  ·subst m;have e:Lib.indexByte (47::r) 47=0:=by unfold Lib.indexByte;simp
   refine⟨splitC 47 r,?_,?_,?_⟩
   ·simp_all [BB,splitC]
   ·grind [BB]
   ·grind [BB]
  ·have w:(c==47)=false:=by simpa using m
   unfold splitC;rw[if_neg m,u];refine⟨t,?_⟩;have e:Lib.indexByte (c::r) 47=if Lib.indexByte r 47==-1 then-1 else Lib.indexByte r 47+1:=by
    conv=>lhs;unfold Lib.indexByte
    rw[w];rfl
   rcases kU r 47 with e1|⟨e1,v⟩
   ·have d:BB r 47=(r,[],false):=by unfold BB;rw[e1];rfl
    have o:BB (c::r) 47=(c::r,[],false):=by unfold BB;rw[e,e1];rfl
    rw[d,o];exact⟨rfl,λh=>Xc,λ_=>rfl⟩
   ·have p:(Lib.indexByte r 47==-1)=false:=by rw[beq_eq_false_iff_ne];omega
    have j:Lib.indexByte (c::r) 47=Lib.indexByte r 47+1:=by rw[e,p];rfl
    generalize y:Lib.indexByte r 47=q at *;have b:(q+1).toNat=q.toNat+1:=O
    have d:BB r 47=(r.take q.toNat,r.drop (q.toNat+1),true):=by unfold BB;rw[y,if_neg O]
    have o:BB (c::r) 47=(c::r.take q.toNat,r.drop (q.toNat+1),true):=by unfold BB;rw[j,if_neg O,b];rfl
    rw[d,o];refine⟨rfl,λ_=>?_,λh=>Xc⟩;simp only[Qb,Q6];omega
def yF{s z:Bs}(h:Cu s z=true):Dl s z=s∨s=z++47::Dl s z:=by
 unfold Cu at h;unfold Dl;by_cases q:z=[]
 ·simp_all
 ·rw[if_neg q]at h ⊢;rw[QB]at h;rw[if_pos h.1,if_pos h.2];right;have u:s.take z.length=z:=by simpa[B7]using h.1
  have f:(s.drop z.length).take 1=[47]:=by simpa[B7]using h.2
  have n:s=z++s.drop z.length:=by
   conv=>lhs;rw[←Q2 z.length s,u]
  have v:s.drop z.length=47::(s.drop z.length).drop 1:=by
   conv=>lhs;rw[←Q2 1 (s.drop z.length),f]
   rfl
  conv=>lhs;rw[n,v]
theorem mD{s z:Bs}(i:AF s=0)(h:(Cq s z).2=true):Vb (Cq s z).1=true:=by
 have r:=CB i;have k:=W6 i;have m:Cu s z=true:=by
  grind [Cq]
 have j:=yF m;have hl:=Th s z;obtain⟨t,n,v,d⟩:=S7 (Dl s z);have na:(BB (Dl s z) 47).1∈splitC 47 s:=by
  rcases j with e|e
  ·simp_all
  ·rw[e,S6,←e,n];exact List.mem_append_right _ (Qq ..)
 obtain⟨c1,p,y⟩:=jP (k _ na);unfold Cq;rw[if_neg (by rw[m];decide)];split
 ·rename_i u;have:=v u;refine jW (λc w=>?_) U (λe=>?_) Xb
  ·rcases QR.1 w with h|h
   ·exact c1 c h
   ·simp_all
  ·have:=congrArg ZS e;simp at this
 ·rename_i u;have:=d XU;rw[this]at c1 p y;exact jW c1 p y (show(Dl s z).length<=64 by omega)
def P4{s:Bs}:∀(f p:Nat),s.length<=p+f->MD s f p=true->∀j,p<=j->j<s.length->Ea (Ho s j)=true
 |0,p,hf,h,j,h1,h2=>O
 |f+1,p,hf,h,j,h1,h2=>by
  unfold MD at h;rw[if_pos O,QB]at h;by_cases e:j=p
  ·rw[e];exact h.1
  ·exact P4 f (p+1) O h.2 j O h2
def aHC{s:Bs}(h:BT s=true):Vb s=true:=by
 unfold BT at h;simp only[QB,decide_eq_true_eq]at h;have w:∀j,j<s.length->Ea (Ho s j)=true:=λj d=>P4 s.length 0 O h.2 j (Qi _) d
 have m:∀j,j<s.length->Ho s j≠32∧Ho s j≠44∧Ho s j≠45:=λj d=>by
  have:=w j d;unfold Ea at this;simp only[Zy,decide_eq_true_eq]at this;omega
 refine jW (fG λj d=>⟨(m j d).1,(m j d).2.1⟩) (λe=>by rw[e]at h;simp at h) (λe=>?_) O;have:=(m 0 O).2.2;rw[e]at this;exact this rfl
def fE{zs:List Bs}{x:Bs}(h:x∈Lib.compact zs):x∈zs:=by
 unfold Lib.compact Lib.compactUpTo at h;obtain⟨j,d,rfl⟩:=Qw.1 h;have u:=List.mem_range.1 (QS.1 d).1;rw[getElem!_pos _ _ XU];simp
def UD{l:List Bs}{x:Bs}(h:x∈jD l):x∈l:=(ZE l _).mem_iff.1 h
theorem aQ2{z:Bs}{l:List Bs}{x:Bs}(h:x∈rD z l):∃s∈l,(Cq s z).2=true∧(Cq s z).1=x:=by
 have:=UD (fE h);unfold Gk at this;obtain⟨s,j,e⟩:=List.mem_filterMap.1 this;split at e
 ·simp_all
 ·cases e
def aQ3(z:Bs)(l:List Bs):(rD z l).length<=l.length:=by
 unfold rD;refine QF (Lib.compact_length_le _) ?_;unfold jD;rw[Qu];exact Q9 _ _
theorem Oj{l:List Bs}{s:Bs}(h:s∈B6 l):AF s=0:=by
 grind [B6,DN,Ca]
def uT(l:List Bs):(B6 l).length<=l.length:=Q9 _ _
def aD3(z:Bs)(l:List Bs):(((rD z (B6 l)).take 64).any λs=>!Vb s)=false:=by
 grind [aQ2,mD,Oj]
def vU(l:List Bs):0<=IR l∧IR l<=99:=by
 grind [IR]
def Lh(s:Bs):0<=AF s∧AF s<=99:=by
 unfold AF;split
 ·decide
 ·exact vU _
def aCJ(b:Bool):0<=BK b∧BK b<=99:=by cases b<;>decide
def aAJ(r:Rl)(l:List Rl):0<=Ic r l∧Ic r l<=99:=by
 unfold Ic;have:=Lh r.1
 repeat' split
 all_goals omega
def Td(l:List Rl):∀f j,0<=D8 l f j∧D8 l f j<=99
 |0,j=>by unfold D8;decide
 |f+1,j=>by
  unfold D8;have:=aAJ (CZ l j) (l.take j);have:=Td l f (j+1)
  repeat' split
  all_goals omega
def UY(l:List Rl):0<=Cg l∧Cg l<=99:=by
 unfold Cg;have:=Td l l.length 0;split<;>omega
def TS(a:Ak)(c:Int):0<=A7 a c∧A7 a c<=99:=by
 unfold A7;have:=Lh a.pa;have:=Lh a.ot;have:=UY a.rs
 repeat' split
 all_goals first|exact aCJ _|omega
def rB(a:Ak):∀(l:Bs)(b:Ak),0<=(LA a b l).1∧(LA a b l).1<=99
 |[],b=>by unfold LA;simp
 |c::r,b=>by
  unfold LA;have:=TS a (c.toNat:Int);have:=rB a r (Dh b (c.toNat:Int));split<;>omega
def xK(a:Ak):0<=BQ a∧BQ a<=99:=by
 unfold BQ;have:=rB a (Bk a.op) (Ih a)
 repeat' split
 all_goals omega
def UQ(v:Vw)(a:Ak):0<=F8 v a∧F8 v a<=99:=by
 unfold F8;have:=xK a
 repeat' split
 all_goals omega
def mE{v:Vw}{a:Ak}(h:F8 v a=0):BQ a=0:=by
 grind [F8]
def aTo{a:Ak}(h:BQ a=0)(z:0<=a.op):1<=a.op∧a.op<=18:=by
 have d:A4 a.op≠[]:=λe=>by unfold BQ at h;rw[if_pos e]at h;cases h
 unfold A4 at d;have u:a.op.toNat<19:=by
  rcases ZV a.op.toNat 19 with h|h
  ·exact h
  ·simp_all [RB]
 have f:a.op.toNat≠0:=λe=>by rw[e]at d;exact d rfl
 omega
def aGW(n p:Bs)(l:List Rl):0<=Mk n p l∧Mk n p l<=99:=by
 unfold Mk;have:=UY l
 repeat' split
 all_goals omega
def S_{n p:Bs}{l:List Rl}(h:Mk n p l=0):BT n=true:=by
 grind [Mk]
def aBF(l:List Tk)(k:Tk):((∃t,IH l k=(some t,0))∧Mk k.1 k.2.1 k.2.2.2=0∧k.2.1≠[]∧A0 l k.1=false∧A0 l k.2.1=true∧(IH l k).1=some (Fq l k))∨((IH l k).1=none∧1<=(IH l k).2∧(IH l k).2<=99):=by
 unfold IH;have h:=aGW k.1 k.2.1 k.2.2.2;by_cases u:Mk k.1 k.2.1 k.2.2.2≠0
 ·rw[if_pos u];exact .inr ⟨rfl,Xa⟩
 rw[if_neg u];by_cases f:k.2.1=[]
 ·rw[if_pos f];exact .inr ⟨rfl,V,V⟩
 rw[if_neg f];by_cases i:A0 l k.1=true
 ·rw[if_pos i];exact .inr ⟨rfl,V,V⟩
 rw[if_neg i];by_cases p:A0 l k.2.1=false
 ·rw[if_pos p];exact .inr ⟨rfl,V,V⟩
 rw[if_neg p];by_cases m:GT k.2.2.2 (Bo l (Ir l k.2.1)).2.2.2=false
 ·rw[if_pos m];exact .inr ⟨rfl,V,V⟩
 rw[if_neg m];exact .inl ⟨⟨_,rfl⟩,Decidable.not_not.1 u,f,by simpa using i,XV,rfl⟩
structure SP (l:List Tk):Prop where
 sort:GB l
 tree:∃r,HZ l r∧r []=0
 name:∀k∈l,BT k.1=true
 par:∀k∈l,k.2.1=[]∨∃u∈l,u.1=k.2.1
 nop:∀k∈l,k.2.1=[]->k.1=[114,111,111,116]
 rt:∀k∈l,k.1=[114,111,111,116]->k.2.2.2=[([],63)]
def SP.root{l:List Tk}(h:SP l){t:Tk}(q:t∈l):∃k∈l,k.1=[114,111,111,116]:=by
 obtain⟨r,i,_⟩:=h.tree;have z:∀(n:Nat)(t:Tk),t∈l->r t.1<=n->∃k∈l,k.1=[114,111,111,116]:=by
  intro n;induction n with
  |zero=>
   intro t q g;have:=i.up t q;omega
  |succ n ih=>
   intro t q g;rcases h.par t q with e|⟨u,x,e⟩
   ·exact⟨t,q,h.nop t q e⟩
   ·have:=i.up t q;exact ih u x (by rw[e];omega)
 exact z _ t q (Qg _)
def uE{l:List Tk}(h:GB l):l.Pairwise λt u=>t.1≠u.1:=by
 rw[QD];intro i j hi d z e;have:=h i j z d;unfold Bo at this;rw[QP,QP,Qf hi,Qf d]at this;simp only[Q7]at this;rw[e,bl_irr]at this;cases this
def NT{l:List Tk}{s:Bs}(h:A0 l s=true):∃k∈l,k.1=s:=by
 grind [A0,N_,PL]
def aCC{l:List Tk}{s:Bs}(z:GB l)(h:A0 l s=false):∀k∈l,k.1≠s:=λk o e=>by
 obtain⟨j,d,rfl⟩:=QK o;have:=(eD z d).2;unfold Bo at this;rw[QP,Qf d]at this;simp only[Q7]at this;rw[e,h]at this;cases this
def Vf{s:Bs}(h:BT s=true):s≠[]:=λe=>by rw[e]at h;cases h
def DG{l:List Tk}{k x:Tk}:x∈Fq l k↔x∈l∨x=k:=by
 unfold Fq;rw[QR,Qr];constructor
 ·grind
 ·rintro(h|h)
  ·rw[←Q2 (Ir l k.1) l,QR]at h;rcases h with h|h
   ·exact .inl h
   ·exact .inr (.inr h)
  ·exact .inr (.inl h)
def WA(l:List Tk)(k:Tk):(Fq l k).length=l.length+1:=by
 grind [Fq]
def aCn{l:List Tk}{k:Tk}(h:SP l)(q:Mk k.1 k.2.1 k.2.2.2=0)(f:A0 l k.1=false)(h3:A0 l k.2.1=true):SP (Fq l k):=by
 obtain⟨r,i,p⟩:=h.tree;have g:=S_ q;have j:GB (Fq l k):=uF h.sort f;have a:=aCC h.sort f;obtain⟨u,z,c⟩:=NT h3;have ta:k.2.1≠k.1:=λe=>a u z (c.trans e)
 refine⟨j,⟨λs=>if s=k.1 then l.length+1 else r s,⟨λt ht=>?_,λt ht=>?_,uE j⟩,?_⟩,λt ht=>?_,λt ht=>?_,λt ht v=>?_,λt ht v=>?_⟩
 ·rcases DG.1 ht with ht|rfl
  ·have n:t.1≠k.1:=a t ht;have w:t.2.1≠k.1:=λe=>by
    rcases h.par t ht with e3|⟨x,d,e3⟩
    ·simp_all [Vf,e3]
    ·exact a x d (e3.trans e)
   simp only[if_neg n,if_neg w];exact i.up t ht
  ·simp only[if_neg ta,if_true];have:=i.top u z;rw[c]at this;omega
 ·rw[WA];rcases DG.1 ht with ht|rfl
  ·simp only[if_neg (a t ht)];have:=i.top t ht;omega
  ·simp
 ·simp_all [Bs,Vf]
 ·rcases DG.1 ht with ht|rfl
  ·exact h.name t ht
  ·exact g
 ·rcases DG.1 ht with ht|rfl
  ·rcases h.par t ht with e|⟨x,d,e⟩
   ·exact .inl e
   ·exact .inr ⟨x,DG.2 (.inl d),e⟩
  ·exact .inr ⟨u,DG.2 (.inl z),c⟩
 ·rcases DG.1 ht with ht|rfl
  ·exact h.nop t ht v
  ·exact absurd (c.trans v) (Vf (h.name u z))
 ·rcases DG.1 ht with ht|rfl
  ·exact h.rt t ht v
  ·obtain⟨x,d,e⟩:=h.root z;exact absurd (e.trans v.symm) (a x d)
def aV7:=y0 f64 [] []
def VA:=y1 f65 4 [] []
def aV6:=y0 f65 [] [(4,VA)]
def aC3:=y0 Tryz.f165 [] []
def MT:=y1 Tryz.f99 5 [] []
def aC5:=y0 Tryz.f99 [] [(5,MT)]
def aNt:=y0 f114 [] []
def aMD:=y0 f177 [] []
def aLT:=y0 f323 [] []
def aLX:=y0 f295 [] []
def aL7:=y0 f243 [] []
def aMC:=y0 f178 [] []
def VR:=y1 f115 5 [(7,[(3,1),(4,1)])] []
def aNs:=y0 f115 [(1,[(3,6),(3,10),(3,13),(7,10),(7,13),(11,13),(13,2),(13,3),(13,6),(13,7),(13,10),(13,11)])] [(5,VR)]
def aV5:=y0 f66 [(9,[(3,6)])] []
def S89:=Ao []
def R89:=RF S89 aV7 [] 6
def aH4:Kq R89 64:=Am (Ai func64) Ad
def Sa:R89 [.bool true]=some (.tup []):=by
 refine Al (Qa rfl) ?_;unfold aV7;simp only[↓C2,G_,GY,reduceIte,Qc,Qe]
 all_goals exact Y0
def S90:=Ao [(64,Ac R89)]
def R90:=RF S90 aV6 [.t 2] 46
def aH3:Kq R90 65:=Am (Ai func65) (Aa aH4 Ad)
def Lw(s:Bs):Int:=s.foldl (λa c=>10*a+((c.toNat:Int)-48)) 0
def cE(s:Bs)(c:UInt8):Lw (s++[c])=10*Lw s+((c.toNat:Int)-48):=by simp[Lw]
def aHx{s:Bs}(p:∀c∈s,48<=c.toNat∧c.toNat<=57):∀j,j<=s.length->0<=Lw (s.take j)∧Lw (s.take j)<10 ^ j:=by
 intro j;induction j with
 |zero=>intro _;rw[Q4];exact⟨V,V⟩
 |succ j ih=>
  intro d;have w:=p s[j] (QM _);have hi:=ih O;rw[Zc,Qf (by omega:j<s.length)];show 0<=Lw (s.take j++[s[j]])∧Lw (s.take j++[s[j]])<10 ^ (j+1);rw[cE,Int.pow_succ];omega
def aBL{ns:Id}{s:Bs}{Q:Ex->St->Prop}(i:s.length<=3)(t:∀c∈s,48<=c.toNat∧c.toNat<=57)(o:∀y,y.s 3= .int .i64 (Lw s)->Q (.exit 0) y)(y:St)(g)(ia:y.s 25= .slice false [] (Az s))(b:y.s 26= .int .i64 (Az s).length)(x:y.s 27= .int .i64 0)(d:y.s 3= .int .i64 0):Ba S90 ns VA Q y g:=by
 have z:=Sa;refine Bv (n:=s.length) (I:=λj y=>y.s 25= .slice false [] (Az s)∧y.s 26= .int .i64 s.length∧y.s 27= .int .i64 (j:Int)∧y.s 3= .int .i64 (Lw (s.take j))) (λj e ih y g hI=>?_) (λy g hI=>?_) 0 (Qi _) y g ⟨ia,by rw[b,B_],x,by rw[Q4];exact d⟩
 ·obtain⟨ka,m,q⟩:=y;obtain⟨ia,b,x,a⟩:=hI;simp only at ia b x a;refine Af VA.eq_1 ?_;have u:((j:Int)<s.length):=by omega
  have k:=nJ (j:=j);have f:=wJ (j:=j) O;have v:(Az s)[j]?=some (.int .u8 (s[j].toNat:Int)):=by simp[Az,e]
  obtain⟨c1,w⟩:=t s[j] (QM _);have p:=aHx t j O;have p3:(10:Int) ^ j<=1000:=by
   have:j=0∨j=1∨j=2:=O
   rcases this with rfl|rfl|rfl<;>decide
  have d1:(48:Int)<=(s[j].toNat:Int):=O
  have d2:(s[j].toNat:Int)<=57:=O
  have w1:IntKind.i64.wrap (10*Lw (s.take j))=10*Lw (s.take j):=IntWalk.i64_in _ ⟨O,O⟩;have r:IntKind.u8.wrap ((s[j].toNat:Int)-48)=(s[j].toNat:Int)-48:=by show((s[j].toNat:Int)-48) % 256=_;omega
  have w3:IntKind.i64.wrap ((s[j].toNat:Int)-48)=(s[j].toNat:Int)-48:=IntWalk.i64_in _ ⟨O,O⟩;have w4:IntKind.i64.wrap (10*Lw (s.take j)+((s[j].toNat:Int)-48))=Lw (s.take (j+1)):=by
   rw[IntWalk.i64_in _ ⟨O,O⟩,Zc,Qf e];exact(cE _ _).symm
  simp only[↓C2,G_,GY,reduceIte,Qc,Qe,ia,b,x,a,u,k,Qn,v,Ae S90 64,z,d1,d2,w1,r,w3,w4,f];exact ih _ _ ⟨ia,b,rfl,rfl⟩
 ·obtain⟨ia,b,x,a⟩:=hI;refine Af VA.eq_1 ?_;simp only[↓C2,G8,Hj,GY,reduceIte,Qe,b,x,Q8];refine o _ ?_;rw[Qt (Qg _)]at a;simp only[↓C2,reduceIte,Qc,a]
def aRw(s:Bs)(u:1<=s.length)(i:s.length<=3)(o:s=[48]∨s.head?≠some 48)(p:∀c∈s,48<=c.toNat∧c.toNat<=57):R90 [.str s]=some (.int .i64 (Lw s)):=by
 refine Al (Qa rfl) ?_;unfold aV6;have z:=Sa;have n:((1:Int)<=s.length):=O
 have d:((s.length:Int)<=3):=O
 have x:∃c,s[0]?=some c∧(s=[48]∨c≠48):=by
  cases s with
  |nil=>simp at u
  |cons c s=>exact⟨c,rfl,by rcases o with h|h;exact .inl h;exact .inr (λe=>h (by rw[e];rfl))⟩
 obtain⟨b,k,ta⟩:=x;simp only[↓C2,G8,Hj,reduceIte,Qc,Qe,reduceCtorEq,n,d];refine aF (λj=>?_) (λj=>?_)
 ·subst j;simp only[↓C2,G_,GY,reduceIte,Qc,Qe,reduceCtorEq,Ae S90 64,z];refine aBL i p (λy h=>?_) _ _ rfl rfl rfl rfl;simp only[↓C2,G8,H_,GY,reduceIte,Qc,Qe,h]
  all_goals exact Y0
 ·have a:((b.toNat:Int)=48)=False:=eq_false (λe=>(ta.resolve_left j) (UInt8.toNat_inj.1 (by show b.toNat=48;omega)));simp only[↓C2,G_,GY,reduceIte,Qc,Qe,reduceCtorEq,ZJ,j,k,a,Ae S90 64,z,QY];refine aBL i p (λy h=>?_) _ _ rfl rfl rfl rfl;simp only[↓C2,G8,H_,GY,reduceIte,Qc,Qe,h]
  all_goals exact Y0
theorem hexD_dig:∀d,d<10->(Ep d).toNat=48+d:=V
theorem MA(n:Nat)(h:n<1000):∀c∈BJ n,48<=c.toNat∧c.toNat<=57:=by
 grind [BJ,Ep,hexD_dig]
def aBq(n:Nat)(h:n<1000):Lw (BJ n)=n:=by
 grind [BJ,Lw,hexD_dig]
def cF(n:Nat):1<=(BJ n).length:=by unfold BJ;split;simp;split<;>simp
def aHy(n:Nat)(h:n<1000):BJ n=[48]∨(BJ n).head?≠some 48:=by
 have z:∀d,d<10->d≠0->Ep d≠48:=λd p t e=>by have:=hexD_dig d p;rw[e]at this;simp at this;omega
 unfold BJ;split
 ·grind
 ·grind
def FM(n:Nat)(h:n<1000):R90 [.str (BJ n)]=some (.int .i64 (n:Int)):=by
 rw[aRw (BJ n) (cF n) (DQ n) (aHy n h) (MA n h),aBq n h]
def aWX:=Ao [(64,Ac R89)]
def aJr:=RF aWX aMD [.t 2] 12
def aVl:Kq aJr 177:=Am (Ai func177) (Aa aH4 Ad)
def aJq(b:Bool):aJr [.str (if b then [49]else [48])]=some (.bool b):=by
 refine Al (Qa rfl) ?_;unfold aMD;have z:=Sa;have h:True:=trivial;have j:decide (([49]:Bs)=[48])=false:=rfl;have f:decide (([48]:Bs)=[49])=false:=rfl;have k:decide (([49]:Bs)=[49])=true:=rfl;have s:decide (([48]:Bs)=[48])=true:=rfl;cases b
 all_goals
  repeat' (first|(refine aF (λh=>?_) (λh=>?_)<;>try (exfalso;omega))|refine AV ?_ |(simp only[↓C2,G_,GY,reduceIte,Qc,Qe,reduceCtorEq,Ae aWX 64,z,j,f]))
  all_goals exact Y0
def aYQ:=Ao []
def aI5:=RF aYQ aC3 [.t 2] 24
def aU2:Kq aI5 165:=Am (Ai func165) Ad
def dX:∀d,d<16->10<=d->(Ep d).toNat=87+d:=V
def w8{x:Int}(z:0<=x)(u:x<256):IntKind.u8.wrap x=x:=by show x % 256=x;omega
def rU(d:Nat)(h:d<16):aI5 [.int .u8 ((Ep d).toNat:Int)]=some (.int .i64 (d:Int)):=by
 refine Al (Qa rfl) ?_;unfold aC3;have f:=h;by_cases p:d<10
 ·rw[hexD_dig d p];have a1:(48:Int)<=((48+d:Nat):Int):=by omega
  have s:((48+d:Nat):Int)<=57:=O
  have j:IntKind.u8.wrap (((48+d:Nat):Int)-48)=(d:Int):=Yk
  have i:IntKind.i64.wrap (d:Int)=(d:Int):=IntWalk.i64_in _ ⟨O,O⟩;simp only[↓C2,G_,GY,reduceIte,Qc,Qe,reduceCtorEq,a1,s,j,i]
  all_goals exact Y0
 ·rw[dX d h O];have a1:(48:Int)<=((87+d:Nat):Int):=by omega
  have s:(((87+d:Nat):Int)<=57)=False:=eq_false O;have v:(97:Int)<=((87+d:Nat):Int):=O
  have y:((87+d:Nat):Int)<=102:=O
  have j:IntKind.u8.wrap (((87+d:Nat):Int)-97)=(d:Int)-10:=Yk
  have i:IntKind.i64.wrap ((d:Int)-10)=(d:Int)-10:=IntWalk.i64_in _ ⟨O,O⟩;have k:IntKind.i64.wrap ((d:Int)-10+10)=(d:Int):=X_
  simp only[↓C2,G_,GY,reduceIte,Qc,Qe,reduceCtorEq,a1,s,v,y,j,i,k]
  all_goals exact Y0
def pX:∀(s:Bs)(j:Nat)(h:j<s.length),(Cl s)[2*j]?=some (Ep (s[j].toNat / 16))∧(Cl s)[2*j+1]?=some (Ep (s[j].toNat % 16))
 |[],j,h=>absurd h U
 |c::s,0,h=>⟨rfl,rfl⟩
 |c::s,j+1,h=>pX s j Xl
def orE:∀x:Nat,x<16->∀y:Nat,y<16->IntKind.u8.wrap (bits .or .i64 (IntKind.i64.wrap ((x:Int)*2 ^ min (4:Int).toNat IntKind.i64.bits)) (y:Int))=((16*x+y:Nat):Int):=V
def aRm:=Ao [(165,Ac aI5)]
def aEU:=RF aRm aC5 [.t 2,.t 3] 47
def aLi:Kq aEU 99:=Am (Ai func99) (Aa aU2 Ad)
def aJs(s:Bs)(hl:s.length<=1000000):aEU [.str (Cl s)]=some (.tup [.str s,.bool true]):=by
 refine Al (Qa rfl) ?_;unfold aC5;have r:(((Cl s).length:Nat):Int)=2*s.length:=by rw[Er];omega
 have hm:((2*(s.length:Int)).tmod 2)=0:=YK
 have hq:IntKind.i64.wrap ((2*(s.length:Int)).tdiv 2)=(s.length:Int):=by rw[Int.tdiv_eq_ediv_of_nonneg O,show(2*(s.length:Int)) / 2=s.length by omega];exact IntWalk.i64_in _ ⟨O,O⟩
 simp only[↓C2,G_,GY,reduceIte,Qc,Qe,reduceCtorEq,Int.reduceNe,ZJ,r,hm,hq];refine As.intro ⟨O,O⟩ ?_;simp only[↓C2,G8,GY,reduceIte,Qc,Qe];refine Bv (n:=s.length) (I:=λj y=>y.s 0= .str (Cl s)∧y.s 5= .int .i64 ((2*j:Nat):Int)∧∃t,y.s 4= .slice false t (Az (s.take j))∧LG 9 _ 5 y.m y.c false t) (λj d ih y g hI=>?_) (λy g hI=>?_) 0 (Qi _) _ _ ⟨rfl,rfl,_,rfl,⟨λ_ _ _=>rfl,.inr ⟨_,rfl,O,Xa,XK⟩,Xa⟩⟩
 ·obtain⟨ka,b,q⟩:=y;obtain⟨z,h5,t,e,v⟩:=hI;simp only at z h5 e v;refine Af MT.eq_1 ?_;have k:(((2*j:Nat):Int)<2*s.length):=by omega
  have oa:(0:Int)<=((2*j:Nat):Int):=O
  have ta:(0:Int)<=((2*j+1:Nat):Int):=O
  have na:IntKind.i64.wrap (((2*j:Nat):Int)+1)=((2*j+1:Nat):Int):=Hu O O;have o:IntKind.i64.wrap (((2*j:Nat):Int)+2)=((2*(j+1):Nat):Int):=X_
  obtain⟨b1,b2⟩:=pX s j d;have w:=s[j].toNat_lt;have u:=rU (s[j].toNat / 16) O;have f:=rU (s[j].toNat % 16) O;have or:=orE (s[j].toNat / 16) O (s[j].toNat % 16) O;rw[show 16*(s[j].toNat / 16)+s[j].toNat % 16=s[j].toNat by omega]at or;have n1:(((s[j].toNat / 16:Nat):Int)<0)=False:=eq_false O;have n2:(((s[j].toNat % 16:Nat):Int)<0)=False:=eq_false O;have ia:Az (s.take j)++[.int .u8 (s[j].toNat:Int)]=Az (s.take (j+1)):=by rw[Zc,Qf d,Ed];rfl
  have i:(Az (s.take j)).length=j:=by rw[B_,Q6];omega
  simp only[↓C2,G_,reduceIte,Qc,Qe,reduceCtorEq,z,h5,r,k,oa,ta,na,Qn,b1,b2,Ae aRm 165,u,f];refine AV ?_;have x:IntKind.i64.wrap (((s[j].toNat / 16:Nat):Int)*2 ^ min (4:Int).toNat IntKind.i64.bits)=IntKind.i64.wrap (((s[j].toNat / 16:Nat):Int)*2 ^ min (4:Int).toNat IntKind.i64.bits):=rfl;have p:∀a:Int,AP .shl (.int .i64 a) (.int .u64 4)=some (.int .i64 (IntKind.i64.wrap (a*2 ^ min (4:Int).toNat IntKind.i64.bits))):=λa=>rfl
  simp only[↓C2,G_,GY,reduceIte,Qc,Qe,reduceCtorEq,e,n1,n2,p,or];refine As.intro ⟨by simp only[i];omega,rfl,(by first|exact v.grow|exact v.put.grow|exact v.put.put.grow|exact v.put.put.put.grow|exact v.put.put.put.put.grow|exact v.put.put.put.put.put.grow)⟩ ?_;rw[ia];simp only[↓C2,G_,GY,reduceIte,Qc,Qe,h5,o];exact ih _ _ ⟨z,rfl,_,rfl,(by first|exact LG.nil (v.appf O Xa)|exact LG.nil (v.put.appf O Xa)|exact LG.nil (v.put.put.appf O Xa)|exact LG.nil (v.put.put.put.appf O Xa)|exact LG.nil (v.put.put.put.put.appf O Xa)|exact LG.nil (v.put.put.put.put.put.appf O Xa))⟩
 ·obtain⟨z,h5,t,e,v⟩:=hI;refine Af MT.eq_1 ?_;have qa:(((2*s.length:Nat):Int)<2*s.length)=False:=eq_false O;rw[Qt (Qg _)]at e;simp only[Option.map_some,↓C2,G_,GY,reduceIte,Qc,Qe,reduceCtorEq,z,h5,e,r,qa,Cz]
  all_goals exact Y0
def aIe(d:Bs)(h:d≠[]):Cl d≠[45]∧Cl d≠[]:=by
 have:0<d.length:=ZF.2 h;exact⟨λe=>YS,λe=>YS⟩
def aRr:=Ao [(99,Ac aEU),(64,Ac R89)]
def aR7:=RF aRr aNt [.t 2] 19
def aVD:Kq aR7 114:=Am (Ai func114) (Aa aLi (Aa aH4 Ad))
def aJL(d:Bs)(hl:d.length<=1000000):aR7 [.str (if d=[]then [45]else Cl d)]=some (.str d):=by
 refine Al (Qa rfl) ?_;unfold aNt;have a:=aJs d hl;have z:=Sa;by_cases h:d=[]
 ·subst h;simp only[↓C2,G_,GY,reduceIte,Qc,Qe,reduceCtorEq]
  all_goals exact Y0
 ·rw[if_neg h];obtain⟨u,f⟩:=aIe d h;simp only[↓C2,G_,GY,reduceIte,Qc,Qe,reduceCtorEq,u,f,Ae aRr 99,a,Ae aRr 64,z]
  all_goals exact Y0
def SG(s:Bs)(c:UInt8):Bs×Bool:=if s.getLast?=some c then(s.dropLast,true)else(s,false)
def vG(s:Bs)(c:UInt8)(h:1<=s.length):(s.drop (s.length-1)=[c])=(s.getLast?=some c):=by
 rw[List.getLast?_eq_getElem?,Zm O,Qf O,Q_ O];simp
def aYI:=Ao []
def aRA:=RF aYI aLT [.t 4] 21
def aUR:Kq aRA 323:=Am (Ai func323) Ad
def aIU(s:Bs)(c:UInt8)(hl:s.length<=1000000):aRA [.str s,.str [c]]=some (.bool (decide (s.getLast?=some c))):=by
 refine Al (Qa rfl) ?_;unfold aLT;by_cases z:s=[]
 ·have y1:((1:Nat):Int)=1:=rfl;have n:((1:Int)<=s.length)=False:=eq_false (by rw[z];decide);simp only[↓C2,G_,GY,reduceIte,Qc,Qe,reduceCtorEq,Qb,Qh,y1,n];rw[z]
  all_goals exact Y0
 ·have u:1<=s.length:=ZF.2 z;have n:((1:Int)<=s.length)=True:=eq_true O;have t:IntKind.i64.wrap ((s.length:Int)-1)=(s.length:Int)-1:=Hu O O;have v:(0:Int)<=(s.length:Int)-1:=by omega
  have d:((s.length:Int)-1<=(s.length:Int))=True:=eq_true O;have o:((s.length:Int)-1).toNat=s.length-1:=O
  have y1:((1:Nat):Int)=1:=rfl;have p:=vG s c u;have e:Zq (s.length-(s.length-1)) (s.drop (s.length-1))=s.drop (s.length-1):=Qt XO;simp only[↓C2,G_,GY,reduceIte,Qc,Qe,reduceCtorEq,Qb,Qh,y1,n,t,v,d,o,e,p]
  all_goals exact Y0
def aRi:=Ao [(323,Ac aRA)]
def aRD:=RF aRi aLX [.t 4,.t 5] 18
def aUU:Kq aRD 295:=Am (Ai func295) (Aa aUR Ad)
def aIX(s:Bs)(c:UInt8)(hl:s.length<=1000000):aRD [.str s,.str [c]]=some (.tup [.str (SG s c).1,.bool (SG s c).2]):=by
 refine Al (Qa rfl) ?_;unfold aLX;have a:=aIU s c hl;unfold SG;by_cases h:s.getLast?=some c
 ·have u:1<=s.length:=by cases s;cases h;simp
  have t:IntKind.i64.wrap ((s.length:Int)-1)=(s.length:Int)-1:=Hu O O;have v:(0:Int)<=(s.length:Int)-1:=O
  have d:((s.length:Int)-1<=(s.length:Int))=True:=eq_true O;have o:((s.length:Int)-1).toNat=s.length-1:=O
  have y1:((1:Nat):Int)=1:=rfl;rw[if_pos h];simp only[↓C2,G_,GY,reduceIte,Qc,Qe,reduceCtorEq,Qb,Qh,y1,Ae aRi 323,a,h,t,v,d,o,QZ,List.dropLast_eq_take]
  all_goals exact Y0
 ·rw[if_neg h];simp only[↓C2,G_,GY,reduceIte,Qc,Qe,reduceCtorEq,Ae aRi 323,a,h]
  all_goals exact Y0
def aWP:=Ao [(295,Ac aRD)]
def aRK:=RF aWP aL7 [.t 4,.t 5] 11
def aU1:Kq aRK 243:=Am (Ai func243) (Aa aUU Ad)
def rT(s:Bs)(c:UInt8)(hl:s.length<=1000000):aRK [.str s,.str [c]]=some (.tup [.str (SG s c).1,.bool (SG s c).2]):=by
 refine Al (Qa rfl) ?_;unfold aL7;have a:=aIX s c hl;simp only[↓C2,G_,GY,reduceIte,Qc,Qe,reduceCtorEq,Ae aWP 295,a]
 all_goals exact Y0
def aIy(s:Bs)(c:UInt8):SG (s++[c]) c=(s,true):=by
 grind [SG]
def VU{s:Bs}{c:UInt8}(h:s.getLast?≠some c):SG s c=(s,false):=if_neg h
def aBp(n:Nat)(h:n<1000)(c:UInt8)(w:c.toNat<48):(BJ n).getLast?≠some c:=by
 grind [MA]
def aAM(x:Rw)(h:0<=x.1∧x.1<1000):SG (rowW1 x) 35=(BJ x.1.toNat++(if x.2.1=true then [33]else []),x.2.2)∧SG (BJ x.1.toNat++(if x.2.1=true then [33]else [])) 33=(BJ x.1.toNat,x.2.1):=by
 obtain⟨n,g,d⟩:=x;have o:n.toNat<1000:=by simp only at h;omega
 unfold rowW1;have a:∀c:UInt8,c.toNat<48->(BJ n.toNat).getLast?≠some c:=aBp _ o;cases g<;>cases d<;>simp only[Bool.false_eq_true,if_false,if_true,Zg,aIy,true_and,and_true]
 ·exact⟨VU (a 35 V),VU (a 33 V)⟩
 ·exact VU (a 33 V)
 ·exact VU U
def aRl:=Ao [(243,Ac aRK),(65,Ac R90)]
def aRY:=RF aRl aMC [.cell (some 3) 2] 20
def aVk:Kq aRY 178:=Am (Ai func178) (Aa aU1 (Aa aH3 Ad))
def aJp(x:Rw)(h:0<=x.1∧x.1<1000):aRY [.str (rowW1 x)]=some (.agg [.int .i64 x.1,.bool x.2.1,.bool x.2.2]):=by
 refine Al (Qa rfl) ?_;unfold aMC;obtain⟨c1,p⟩:=aAM x h;have hl:=Te x;have a1:=rT (rowW1 x) 35 O;have s:=rT (BJ x.1.toNat++(if x.2.1=true then [33]else [])) 33 (by have:=DQ x.1.toNat;rw[Qj];split<;>simp<;>omega);rw[c1]at a1;rw[p]at s;have j:=FM x.1.toNat O;rw[QJ h.1]at j;generalize BJ x.1.toNat++(if x.2.1=true then [33]else [])=y at *;simp only[G7,↓C2,GY,reduceIte,Qc,Qe,ZU,Nat.reduceLeDiff,reduceCtorEq,Ae aRl 243,a1,s,Ae aRl 65,j]
 all_goals exact Y0
def opV(x:Op1):Prop:=x.2.1.length<=100∧x.2.2.length<=400∧((x.1=1∧x.2.1≠[])∨(x.1=2∧x.2.1≠[]∧x.2.2=[])∨(x.1=3∧x.2.2=[]))
def aH5(k:Int)(p:Bs)(n:Int):(Aw k p n).length<=p.length+8:=by
 unfold Aw
 repeat' split
 all_goals (first|(simp only[Qj,Qb,Qh];omega)|exact Qi _)
def opK(x:Op1):Prop:=opV x∧(x.1≠3->Ca (BX x.2.1).1 (BX x.2.1).2.1 (BX x.2.1).2.2=0)
theorem Rv(p s:Bs):B7 (p++s) p=true:=by simp[B7]
def jI{s:Bs}(h:AF s=0):1<=s.length:=by
 cases s with
 |nil=>exact absurd h V
 |cons c s=>simp
def Lo{k n:Int}{name:Bs}(h:Ca k name n=0):BX (Aw k name n)=(k,name,n):=by
 unfold Aw;rw[if_neg (λe=>e h)];unfold Ca at h;by_cases u:k=1
 ·grind [BX,Rv]
 rw[if_neg u]at h ⊢;by_cases f:k=2
 ·subst f;rw[if_pos rfl]at h;split at h
  ·rename_i c;obtain⟨n1,n2,i⟩:=c;have hl:=jI i;rw[if_pos rfl];have z:(IntKind.u8.wrap n).toNat=n.toNat:=by
    have:IntKind.u8.wrap n=n:=by show n % 256=n;omega
    rw[this]
   rw[z];have sa:([100,47]++name++[0,UInt8.ofNat n.toNat]).drop 2=name++[0,UInt8.ofNat n.toNat]:=U
   have r:(name++[0,UInt8.ofNat n.toNat]).length=name.length+2:=U
   unfold BX;have g:(name++[0,UInt8.ofNat n.toNat]).take (name.length+2-2)=name:=U
   have v:(name++[0,UInt8.ofNat n.toNat]).getD (name.length+2-1) 0=UInt8.ofNat n.toNat:=by simp[QC]
   have o:(name++[0,UInt8.ofNat n.toNat]).getD (name.length+2-2) 0=0:=by simp[QC]
   have d:(((UInt8.ofNat n.toNat).toNat:Nat):Int)=n:=by
    rw[UInt8.toNat_ofNat'];omega
   rw[sa,r,if_neg U,if_neg U,if_neg (by simp[B7]),if_neg (by simp[B7]),if_pos ⟨by rw[Q3];exact Rv _ _,O,o⟩,g,v,d]
  ·cases h
 rw[if_neg f]at h ⊢;by_cases x:k=3
 ·simp_all [BX,B7,Rv]
 rw[if_neg x]at h ⊢;split at h
 ·rename_i y;split at h
  ·rename_i c;obtain⟨rfl,rfl⟩:=c;rcases y with rfl|rfl
   ·rfl
   ·rfl
  ·cases h
 ·cases h
def IN{k n:Int}{name:Bs}(h:Ca k name n=0):Aw k name n≠[]:=λe=>by
 have:=Lo h;rw[e]at this;have:k=0:=(congrArg (·.1) this).symm;subst this;cases h
theorem DO{a k n:Int}{name y:Bs}(o:a=1∨a=2∧y=[])(h:Ca k name n=0)(hl:name.length<=64)(r:y.length<=400):opK (a,Aw k name n,y):=by
 have u:=aH5 k name n;have f:=IN h;refine⟨⟨by show(Aw k name n).length<=100;omega,r,?_⟩,λ_=>by show Ca (BX (Aw k name n)).1 _ _=0;rw[Lo h];exact h⟩;rcases o with rfl|⟨rfl,rfl⟩
 ·exact .inl ⟨rfl,f⟩
 ·simp_all
def cB(a:UInt8){p:Bs}(hl:p.length<=64):opK (3,[a,47]++p++[47],[]):=
 ⟨⟨Xb,Qi _,.inr (.inr ⟨rfl,rfl⟩)⟩,λh=>absurd rfl h⟩
theorem OK{p:Bs}(h:AF p=0):Ca 1 p 0=0:=by unfold Ca;rw[if_pos rfl,if_pos ⟨rfl,h⟩]
def UM{p:Bs}{n:Int}(h:AF p=0)(g:1<=n∧n<=30):Ca 2 p n=0:=by unfold Ca;rw[if_neg V,if_pos rfl,if_pos ⟨g.1,g.2,h⟩]
def aS8{p:Bs}(h:BT p=true):Ca 3 p 0=0:=by unfold Ca;rw[if_neg V,if_neg V,if_pos rfl,if_pos ⟨rfl,h⟩]
structure zA (l:List Op1):Prop where
 n:l.length<=40
 ok:∀x∈l,opK x
def aIJ{l t:List Mt}{m:Mt}(e:(Io l m).1=some t):AF m.1=0∧l.length<4:=by
 grind [Io,EE]
def Tc{l:List Rl}:∀f j,D8 l f j=0->∀i,j<=i->i<j+f->i<l.length->Ic (CZ l i) (l.take i)=0
 |0,j,_,i,h1,h2,_=>O
 |f+1,j,h,i,h1,h2,hi=>by
  unfold D8 at h;rw[if_pos O]at h;split at h
  ·omega
  ·rename_i w;rcases Nat.eq_or_lt_of_le h1 with rfl|h1
   ·exact Decidable.not_not.1 w
   ·exact Tc f (j+1) h i O O hi
def aA9{l:List Rl}(h:Cg l=0):∀r∈l,r.1.length<=64:=λr j=>by
 unfold Cg at h;split at h
 ·cases h
 ·obtain⟨i,hi,rfl⟩:=QK j;have f:=Tc l.length 0 h i (Qi _) O hi;have e:CZ l i=l[i]:=by simp[CZ,Qf hi]
  rw[e]at f;unfold Ic at f;split at f
  ·omega
  ·grind [AF,CB]
theorem uM{l:List Rl}(h:Cg l=0):(BA (Bl l)).length<=300:=by
 have p:=(NF h).1;have c:=aA9 h;have j:CN (Bl l)<=71*(Bl l).length:=Mm λx q=>by
  obtain⟨r,i,rfl⟩:=Qw.1 q;have:=c r i;have:=FA r.2.toNat;simp only[Og,Qj,Qb,Qh];omega
 have:=Gl (Bl l);rw[CP]at *;omega
def jN(x y:Bs):(Cj [x,y]).length=4+x.length+y.length:=by
 grind [Cj,aAO,beB_len]
def uG{l:List Mt}:GC l↔l.Pairwise λa b=>Op.bytesLess a.1 b.1=true:=by
 rw[QD];constructor
 ·intro h i j hi d z;have:=h i j z d;simpa[QC,hi,d]using this
 ·intro h i j z d;have:=h i j O d z;simpa[QC,show i<l.length by omega,d]using this
def S9{l:List Tk}:GB l↔l.Pairwise λa b=>Op.bytesLess a.1 b.1=true:=by
 rw[QD];constructor
 ·intro h i j hi d z;have:=h i j z d;simpa[Bo,QC,hi,d]using this
 ·intro h i j z d;have:=h i j O d z;simpa[Bo,QC,show i<l.length by omega,d]using this
def aEs{l t:List Mt}{m:Mt}(h:GC l)(e:(Io l m).1=some t):GC t:=by
 rw[Uc h]at e;have:=mU (s:=(false,l)) (m:=m) h;unfold aEu at this;rw[e]at this;exact this
def aAY{l:List Mt}{p:Bs}(h:GC l):GC (OL l p):=by
 rw[uG]at h ⊢;refine List.Pairwise.sublist ?_ h;unfold OL;have e:l=l.take (Cm l p).toNat++l.drop (Cm l p).toNat:=(Q2 _ _).symm
 conv=>rhs;rw[e]
 refine List.Sublist.append (List.Sublist.refl _) ?_;rw[←List.drop_drop];exact List.drop_sublist _ _
def fZ{l:List Tk}{r:Bs->Nat}(T:HZ l r){s x:Bs}(h:H8 l s x):x=s∨∃c∈Cb l s,H8 l c x:=by
 induction h with
 |refl=>exact .inl rfl
 |step t q u ih=>
  right;rcases ih with e|⟨c,w,f⟩
  ·refine⟨t.1,?_,.refl⟩;have:=T.up t q;unfold Cb;refine Qw.2 ⟨t,QS.2 ⟨q,?_⟩,rfl⟩;simp only[QB,decide_eq_true_eq];exact⟨e,λv=>by rw[e,←v]at this;omega⟩
  ·exact⟨c,w,.step t q f⟩
def eX{l:List Tk}{r:Bs->Nat}(T:HZ l r):∀(f:Nat)(s x:Bs),H8 l s x->l.length<=r s+f->x∈Eb l f s
 |0,s,x,h,hf=>by
  rcases fZ T h with rfl|⟨c,w,_⟩
  ·simp[Eb]
  ·have:=IM T w;omega
 |f+1,s,x,h,hf=>by
  rw[Eb];rcases fZ T h with rfl|⟨c,w,y⟩
  ·exact Qq
  ·have:=IM T w;exact QG _ (Zu.2 ⟨c,w,eX T f c x y O⟩)
def aCy{l:List Tk}{r:Bs->Nat}(T:HZ l r){s x:Bs}:x∈Cx l s↔H8 l s x:=by
 unfold Cx;constructor
 ·intro h;exact Lr _ _ _ (UD h)
 ·intro h;exact(ZE _ _).mem_iff.2 (eX T l.length s x h O)
def vR{l:List Bs}{s:Bs}:Gn l s=true↔s∈l:=by
 unfold Gn;rw[List.any_eq_true];constructor
 ·rintro⟨x,hx,e⟩;rw[of_decide_eq_true e];exact hx
 ·intro h;exact⟨s,h,decide_eq_true rfl⟩
def dI{l:List Tk}{g:List Bs}{t:Tk}:t∈CT l g↔t∈l∧t.1∉g:=by
 unfold CT;rw[QS];have:=@vR g t.1;cases h:Gn g t.1<;>simp_all
def aCo{l:List Tk}(h:SP l)(s:Bs):SP (CT l (Cx l s)):=by
 obtain⟨r,T,v⟩:=h.tree;have b:(CT l (Cx l s)).Sublist l:=QX;refine⟨S9.2 ((S9.1 h.sort).sublist b),⟨λn=>((CT l (Cx l s)).filter λu=>decide (r u.1<=r n)).length,⟨λt q=>?_,λt q=>ZA _ _,T.one.sublist b⟩,?_⟩,λk o=>h.name k (b.subset o),λk o=>?_,λk o=>h.nop k (b.subset o),λk o=>h.rt k (b.subset o)⟩
 ·have x:=T.up t (b.subset q);have z:∀L:List Tk,t∈L->(L.filter λu=>decide (r u.1<=r t.2.1)).length<(L.filter λu=>decide (r u.1<=r t.1)).length:=by
   intro L;induction L with
   |nil=>intro h;cases h
   |cons a L ih=>
    have d:(L.filter λu=>decide (r u.1<=r t.2.1)).length<=(L.filter λu=>decide (r u.1<=r t.1)).length:=by
     rw[←Zh,←Zh];exact List.countP_mono_left (λu _ c=>by
      have:=of_decide_eq_true c;exact decide_eq_true O)
    intro hm;rcases Qr.1 hm with rfl|hm
    ·rw[Qk,Qk,if_neg Xb,if_pos U];simp only[Qb];omega
    ·have:=ih hm;rw[Qk,Qk];by_cases c1:r a.1<=r t.2.1
     ·rw[if_pos (by simpa using c1),if_pos Xb];simp only[Qb];omega
     ·rw[if_neg (by simpa using c1)];split
      ·simp only[Qb];omega
      ·exact this
  exact z _ q
 ·rw[Zt,Zx];intro u x;have:=T.up u (b.subset x);simp only[decide_eq_true_eq];omega
 ·obtain⟨na,i⟩:=dI.1 o;rcases h.par k na with e|⟨u,x,e⟩
  ·exact .inl e
  ·refine .inr ⟨u,dI.2 ⟨x,λf=>i ?_⟩,e⟩;rw[aCy T]at f ⊢;rw[e]at f;exact .step k na f
def LZ(q w:Bs):∀l:List Bs,BU (l++[q]) w=if q=w then(l.length:Int)else BU l w
 |[]=>by simp[BU]
 |x::r=>by
  have ih:=LZ q w r;show BU (x::(r++[q])) w=_;unfold BU;rw[ih];by_cases h:q=w
  ·simp only[if_pos h];rw[if_pos O];simp
  ·simp only[if_neg h]
def eQ(k:Kn)(q:Bs)(t:Bs)(b:Bool)(w:Bs):C5 {k with es:=k.es++[(q,t,b)]} w=if q=w then(t,b,true)else C5 k w:=by
 unfold C5 FB;simp only[Zz,QW,Za,LZ,QI];by_cases h:q=w
 ·simp only[if_pos h];rw[if_neg O];simp[QC]
 ·simp only[if_neg h];by_cases f:BU (k.es.map (·.1)) w<0
  ·rw[if_pos f,if_pos f]
  ·rw[if_neg f,if_neg f];have:=(Fd (k.es.map (·.1)) w).2;rw[QI]at this;have e:∀x,(k.es++[(q,t,b)]).getD (BU (k.es.map (·.1)) w).toNat x=k.es.getD (BU (k.es.map (·.1)) w).toNat x:=λx=>by
    simp only[QC];rw[QQ O]
   rw[e]
def aBH(k:Kn)(q:Bs)(nl:Bool)(l:List Bs)(w:Bs):Fm {k with ls:=k.ls++[(q,nl,l)]} w=if q=w then(nl,l,true)else Fm k w:=by
 unfold Fm;simp only[Zz,QW,Za,LZ,QI];by_cases h:q=w
 ·simp only[if_pos h];rw[if_neg O];simp[QC]
 ·simp only[if_neg h];by_cases f:BU (k.ls.map (·.1)) w<0
  ·rw[if_pos f,if_pos f]
  ·rw[if_neg f,if_neg f];have:=(Fd (k.ls.map (·.1)) w).2;rw[QI]at this;have e:∀x,(k.ls++[(q,nl,l)]).getD (BU (k.ls.map (·.1)) w).toNat x=k.ls.getD (BU (k.ls.map (·.1)) w).toNat x:=λx=>by
    simp only[QC];rw[QQ O]
   rw[e]
def GL(k:Kn)(q:Bs)(d:Dk)(w:Bs):(q=w->(C5 (AY k q false d) w).2.2=true)∧(q≠w->C5 (AY k q false d) w=C5 k w):=by
 have e:AY k q false d={k with es:=k.es++[(q,((d.its.find? λx=>decide (x.1=q)).getD ([],[],false)).2)]}:=rfl;rw[e];have h:=eQ k q ((d.its.find? λx=>decide (x.1=q)).getD ([],[],false)).2.1 ((d.its.find? λx=>decide (x.1=q)).getD ([],[],false)).2.2 w;refine⟨λu=>?_,λu=>?_⟩
 ·refine(congrArg (λx=>x.2.2) h).trans ?_;rw[if_pos u]
 ·refine h.trans ?_;rw[if_neg u]
def aHY(k:Kn)(q:Bs)(d:Dk):(Fm (AY k q true d) q).2.2=true:=by
 have e:AY k q true d={k with ls:=k.ls++[(q,((d.lss.find? λx=>decide (x.1=q)).getD ([],true,[])).2)]}:=rfl;rw[e];have h:=aBH k q ((d.lss.find? λx=>decide (x.1=q)).getD ([],true,[])).2.1 ((d.lss.find? λx=>decide (x.1=q)).getD ([],true,[])).2.2 q;refine(congrArg (λx=>x.2.2) h).trans ?_;rw[if_pos rfl]
def gC{l t:List Mt}{m:Mt}(h:GC l)(e:(Io l m).1=some t):∀x∈t,x∈l∨x=m:=by
 grind [Uc,aEv]
def aEw(l:List Mt)(m:Mt):(∃t,(Io l m).1=some t∧(Io l m).2=0∧t.length=l.length+1)∨((Io l m).1=none∧1<=(Io l m).2∧(Io l m).2<=99):=by
 unfold Io;have h:=Lh m.1;by_cases u:EE m.1 m.2.1≠0
 ·grind [EE]
 rw[if_neg u];by_cases f:0<=Cm l m.1
 ·simp_all
 rw[if_neg f];by_cases i:MB m.1 (l.map (·.1))=true
 ·simp_all
 rw[if_neg i];by_cases p:4<=l.length
 ·simp_all
 rw[if_neg p];exact .inl ⟨_,rfl,rfl,by rw[isortR_len,Qj];rfl⟩
structure Hx (v:Vw):Prop where
 ok:R4 v
 inv:SP v.ks
 srt:GC v.ms
 nlm:v.nlm=true->v.ms=[]
 te:1<=v.te∧v.te<=6
 kl:v.ks.length<=39
 ml:v.ms.length<=4
 mr:∀m∈v.ms,m.1.length<=64
def aGD{v:Vw}(y:Hx v){n:Int}(g:1<=n∧n<=6):Hx {v with te:=n}:=⟨⟨y.ok.ml,y.ok.mp,y.ok.kl,y.ok.kp⟩,y.inv,y.srt,y.nlm,g,y.kl,y.ml,y.mr⟩
def Us{v:Vw}(y:Hx v){nl:Bool}{l:List Mt}(a:Sl l)(j:GC l)(g:nl=true->l=[])(hl:l.length<=4)(i:∀m∈l,m.1.length<=64):Hx {v with nlm:=nl,ms:=l}:=⟨⟨a.1,a.2,y.ok.kl,y.ok.kp⟩,y.inv,j,g,y.te,y.kl,hl,i⟩
def nR{v:Vw}(y:Hx v){nl:Bool}{l:List Tk}(h:SP l∧l.length<=39∧∀k∈l,aAt k∧Mx k.2.2.2):Hx {v with nlt:=nl,ks:=l}:=⟨⟨y.ok.ml,y.ok.mp,QF h.2.1 V,h.2.2⟩,h.1,y.srt,y.nlm,y.te,h.2.1,y.ml,y.mr⟩
structure H7 (a:Ak):Prop where
 ok:HH a
 cap:Gv a.rs
 nlr:a.nlr=true->a.rs=[]
structure Ip (k:Kn):Prop where
 es:k.es.length<=20
 ls:k.ls.length<=20
 et:∀x∈k.es,x.2.1.length<=400
 lt:∀x∈k.ls,x.2.2.length<=2000∧∀s∈x.2.2,s.length<=1000000
def EM(v:Vw)(e:Int):Oc:=⟨[],false,HD (.fail e),true,[],v⟩
def CI(v:Vw)(q:Bs)(li:Bool):Oc:=⟨q,li,[],true,[],v⟩
def Iq(v:Vw)(a:Ak)(o:Oc):Prop:=
 ∃y,H3 y=0∧oO y∧o.rep=HD y∧(((∃e,y= .fail e)∧o.ops=[]∧o.vw=v)∨((∀e,y≠ .fail e)∧((Ef a.op=false∧o.ops=[]∧∃b,(a.op≠2->a.op≠3->b=v.se)∧o.vw={v with se:=b})∨(Ef a.op=true∧o.ops≠[]∧zA o.ops∧Hx o.vw∧o.vw.key=v.key))))
structure HO (v:Vw) (a:Ak) (dec:Kn->Oc):Prop where
 run:∀k,Ip k->R19 Sm SQ [H4 v,Hv a,.agg (HG k)]=some (.agg (LR (dec k)))
 rep:∀k,Ip k->(dec k).need=[]->Iq v a (dec k)
 nd:∀k,Ip k->(dec k).need≠[]->∃q li,dec k=CI v q li
 term:∃R:Kn->Nat,(∀k,R k<=3)∧∀k d,Ip k->(dec k).need≠[]->R (AY k (dec k).need (dec k).li d)<R k
def By{v:Vw}{a:Ak}(o:Oc)(run:∀k,Ip k->R19 Sm SQ [H4 v,Hv a,.agg (HG k)]=some (.agg (LR o)))(g:o.need=[])(i:Iq v a o):HO v a (λ_=>o):=
 ⟨run,λ_ _ _=>i,λ_ _ h=>absurd g h,λ_=>0,λ_=>Qi _,λ_ _ _ h=>absurd g h⟩
def BW{v:Vw}{a:Ak}{e:Int}(f:1<=e∧e<=99):Iq v a (EM v e):=⟨.fail e,if_pos f,trivial,rfl,.inl ⟨⟨e,rfl⟩,rfl,rfl⟩⟩
def Gq{v:Vw}{a:Ak}{o:Oc}(y:Ry)(h:H3 y=0)(g:oO y)(i:o.rep=HD y)(j:∀e,y≠ .fail e)(t:Ef a.op=false)(ho:o.ops=[])(b:Bool)(m:a.op≠2->a.op≠3->b=v.se)(r:o.vw={v with se:=b}):Iq v a o:=
 ⟨y,h,g,i,.inr ⟨j,.inl ⟨t,ho,b,m,r⟩⟩⟩
def DT{v:Vw}{a:Ak}{o:Oc}(y:Ry)(h:H3 y=0)(g:oO y)(i:o.rep=HD y)(j:∀e,y≠ .fail e)(t:Ef a.op=true)(ho:o.ops≠[])(r:zA o.ops)(hi:Hx o.vw)(n:o.vw.key=v.key:=by rfl):Iq v a o:=
 ⟨y,h,g,i,.inr ⟨j,.inr ⟨t,ho,r,hi,n⟩⟩⟩
def Ob{op:Int}(h:4<=op∧op<=18∧op≠9∧op≠14∧op≠17):Ef op=true:=decide_eq_true h
def PB{op:Int}(h:op=1∨op=2∨op=3∨op=9∨op=14∨op=17):Ef op=false:=decide_eq_false O
def OY:∀{l:List Mt},(∀m∈l,m.1.length<=64)->(F_ l).length<=68*l.length
 |[],_=>Qg _
 |m::l,h=>by
  have ih:=OY (l:=l) λx q=>h x (QG _ q)
  have j:=h m (Qq ..);have:=pL m;show(mtB m++F_ l).length<=_;rw[Qj,Qb];omega
def P3{s:Bs}(h:BT s=true):s.length<=8:=by
 grind [BT]
def Im(v:Vw):iL (Hd v):=⟨rfl,rfl⟩
def w54(v:Vw)(a:Ak)(k:Kn){e:Int}(f:1<=e∧e<=99):OD ⟨v,a,k⟩ (Hd v) [.int .i64 e]=some (.tup [],EM v e,none):=mZ ⟨v,a,k⟩ (Hd v) e (Im v) f
def eY{v:Vw}{a:Ak}{e:Int}(ia:zW [H4 v,Hv a]=some (.int .i64 e))(f:1<=e∧e<=99):HO v a (λ_=>EM v e):=
 By _ (λk _=>aEX Sm SQ v a k e O ia _ _ (w54 v a k f)) rfl (BW f)
def aIk{v:Vw}{a:Ak}(hv:Hx v)(ha:H7 a)(ia:zW [H4 v,Hv a]=some (.int .i64 0))(hc:BQ a=0)(h1:1<=a.op)(h8:a.op<=8):∃aa,HO v a aa:=by
 have ma:∀o:Oc,(Hd v).nl=true->(Hd v).ops=[]:=λ_ _=>rfl
 rcases(by omega:a.op=1∨a.op=2∨a.op=3∨a.op=4∨a.op=5∨a.op=6∨a.op=7∨a.op=8)with h|h|h|h|h|h|h|h
 ·exact⟨_,By _ (λk _=>BM .o1 a k h ia _ _ (I3 ⟨v,a,k⟩ (Hd v) (.state v.se) (λ_=>rfl) trivial trivial)) rfl (Gq (.state v.se) rfl trivial rfl Xo (PB O) rfl v.se (λ_ _=>rfl) rfl)⟩
 ·exact⟨_,By _ (λk _=>BM .o2 a k h ia _ _ (I2 ⟨v,a,k⟩ _ (λ_=>rfl))) rfl (Gq .done rfl trivial rfl Xo (PB O) rfl _ (λe _=>absurd h e) rfl)⟩
 ·exact⟨_,By _ (λk _=>BM .o3 a k h ia _ _ (I2 ⟨v,a,k⟩ _ (λ_=>rfl))) rfl (Gq .done rfl trivial rfl Xo (PB O) rfl _ (λ_ e=>absurd h e) rfl)⟩
 ·have ht:=hv.te;by_cases h6:6<=v.te
  ·exact⟨_,By _ (λk _=>BM .o4 a k h ia _ _ (aEI ⟨v,a,k⟩ (Hd v) _ _ (λ_=>rfl) h6 (w54 v a k V))) rfl (BW V)⟩
  ·exact⟨_,By _ (λk _=>BM .o4 a k h ia _ _ (aRe ⟨v,a,k⟩ (Hd v) v.te (Im v) h6 rfl O)) rfl (DT .done rfl trivial rfl Xo (Ob O) (by simp[aHc,Oc.op,Hd]) ⟨by simp[aHc,Oc.op,Hd],by
    simp only[aHc,Oc.op,Hd,QH,Q5];exact⟨DO (.inl rfl) rfl (Qi _) (by rw[Lib.repeatL_length];unfold Sy;simp only[List.length_singleton];split<;>omega),λ_ h=>nomatch h⟩⟩ (aGD hv O))⟩
 ·have hl:=hv.ml;have da:=aF0 (nl:=v.nlm) (t:=[]) (l:=v.ms) (m:=(a.pa,a.n,a.fl)) O hv.nlm (by have:=ha.ok.pa;simp only;omega);rcases aEw v.ms (a.pa,a.n,a.fl)with ⟨l',e1,e2,e3⟩|⟨e1,e2⟩
  ·rw[e1,e2]at da;have ea:Sl l':=⟨O,λm hm=>by
    rcases gC hv.srt e1 m hm with h|h
    ·exact hv.ok.mp m h
    ·rw[h];exact ha.ok.pa⟩
   obtain⟨w,h4⟩:=aIJ e1;have b:∀m∈l',m.1.length<=64:=λm hm=>by
    rcases gC hv.srt e1 m hm with h|h
    ·exact hv.mr m h
    ·rw[h];exact CB w
   exact⟨_,By _ (λk _=>BM .o5 a k h ia _ _ (aEG ⟨v,a,k⟩ (Hd v) false l' da (Im v) ea)) rfl (DT .done rfl trivial rfl Xo (Ob O) (by simp[cM,Sx,Oc.op,Hd]) ⟨by simp[cM,Sx,Oc.op,Hd],by
    simp only[cM,Sx,Oc.op,Hd,QH,Q5];have:=OY b;exact⟨DO (.inl rfl) rfl (Qi _) O,λ_ h=>nomatch h⟩⟩ (Us hv ea (aEs hv.srt e1) (λe=>Xt) O b))⟩
  ·rw[e1]at da;exact⟨_,By _ (λk _=>BM .o5 a k h ia _ _ (aEH ⟨v,a,k⟩ (Hd v) _ _ (λ_=>rfl) v.nlm v.ms _ da O (w54 v a k e2))) rfl (BW e2)⟩
 ·have hl:=hv.ml;by_cases hf:Cm v.ms a.pa<0
  ·have c:=aJW v.nlm v.ms a.pa O hf;exact⟨_,By _ (λk _=>BM .o6 a k h ia _ _ (aEF ⟨v,a,k⟩ (Hd v) _ _ (λ_=>rfl) v.nlm v.ms 14 c V (w54 v a k V))) rfl (BW V)⟩
  ·have hi:(Cm v.ms a.pa).toNat<v.ms.length:=by
    have:=eI v.ms a.pa;omega
   have c:=aEZ v.nlm v.ms a.pa O hv.nlm hf hi;have ea:Sl (OL v.ms a.pa):=⟨Yx,λm hm=>by
    rcases QR.1 hm with h|h
    ·exact hv.ok.mp m (Zf h)
    ·exact hv.ok.mp m (ZD h)⟩
   have i:=CB (RN hc (by rw[h];decide+kernel));have b:∀m∈OL v.ms a.pa,m.1.length<=64:=λm hm=>by
    rcases QR.1 hm with h|h
    ·exact hv.mr m (Zf h)
    ·exact hv.mr m (ZD h)
   have za:=ea.1;have ga:(OL v.ms a.pa).length<=4:=Yx
   exact⟨_,By (umO (Hd v) (decide (OL v.ms a.pa=[])) (OL v.ms a.pa) a.pa) (λk _=>BM .o6 a k h ia _ _ (aRd ⟨v,a,k⟩ (Hd v) _ _ c (Im v) ea (by have:=ha.ok.pa;simp only;omega))) rfl (DT .done rfl trivial rfl Xo (Ob O) (by simp[umO,Sx,Oc.op,Hd]) ⟨by simp[umO,Sx,Oc.op,Hd],by
    simp only[umO,Sx,Oc.op,Hd,QH,List.cons_append,Q5];have:=OY b;exact⟨DO (.inl rfl) rfl (Qi _) O,cB 109 i,cB 100 i,λ_ h=>nomatch h⟩⟩ (Us hv ea (aAY hv.srt) (λe=>of_decide_eq_true e) ga b))⟩
 ·have na:=hv.kl;have hr:Mx a.rs:=⟨Yu,λr hr=>QF (ha.ok.rs r hr).1 V,ha.cap⟩;have fa:=aSf (nl0:=v.nlt) (nl:=a.nlr) (l:=v.ks) (n:=a.ot) (p:=a.tk) (rs:=a.rs) O (λk hk=>(hv.ok.kp k hk).2) ha.nlr hr (by have:=ha.ok.ot;omega) Yt;have f:=aKF (nl:=v.nlt) (l:=v.ks) O;rcases aBF v.ks (a.ot,a.tk,a.nlr,a.rs)with ⟨⟨l',e1⟩,e2,e3,e4,e5,e6⟩|⟨e1,e2⟩
  ·rw[e1]at fa;by_cases hm:(24:Int)<=((v.ks.map λk=>D.str k.1).length:Int)
   ·exact⟨_,By _ (λk _=>BM .o7 a k h ia _ _ (aED ⟨v,a,k⟩ (Hd v) _ _ (λ_=>rfl) false l' fa _ _ f hm (w54 v a k V))) rfl (BW V)⟩
   ·have ba:=Wn (n:=a.ot) (p:=a.tk) (nl:=a.nlr) (t:=[]) (l:=a.rs) Yu hr.2.1 (by have:=ha.ok.ot;omega) Yt;simp only at e2;rw[e2]at ba;have j:=Wl (nl:=a.nlr) (l:=a.rs) Yu ha.ok.rs;have ca:(if Cg a.rs=0 then BA (Bl a.rs)else []).length<=300:=by
     grind [uM]
    have z:=QF ca (by decide:300<=60000);have y:BT a.ot=true:=S_ e2;obtain⟨tp,la,ja⟩:=NT e5;have oa:a.tk.length<=8:=by
     have:=P3 (hv.inv.name tp la);rw[ja]at this;exact this
    have qa:(Cj [a.tk,if Cg a.rs=0 then BA (Bl a.rs)else []]).length<=400:=by rw[jN];omega
    have g:=sG a.ot a.tk a.nlr a.rs _ _ ba j Yt z;exact⟨_,By (mkO (Hd v) false l' a.ot (Cj [a.tk,if Cg a.rs=0 then BA (Bl a.rs)else []])) (λk _=>BM .o7 a k h ia _ _ (aRc ⟨v,a,k⟩ (Hd v) false l' fa _ _ f (Im v) hm _ _ g (by have:=ha.ok.ot;simp only;omega))) rfl (DT .done rfl trivial rfl Xo (Ob O) (by simp[mkO,TF,Oc.op,Hd]) ⟨by simp[mkO,TF,Oc.op,Hd],by
     simp only[mkO,TF,Oc.op,Hd,QH,Q5];exact⟨DO (.inl rfl) (aS8 y) (QF (P3 y) V) qa,λ_ h=>nomatch h⟩⟩ (nR hv (nl:=false) (l:=l') (by
      have e7:l'=Fq v.ks (a.ot,a.tk,a.nlr,a.rs):=ZZ ((congrArg Prod.fst e1).symm.trans e6);rw[e7];exact⟨aCn hv.inv e2 e4 e5,by rw[WA];rw[QI]at hm;omega,λk hk=>by
       rcases DG.1 hk with hk|rfl
       ·exact hv.ok.kp k hk
       ·exact⟨⟨hr.1,ha.nlr⟩,hr⟩⟩)))⟩
  ·rw[e1]at fa;exact⟨_,By _ (λk _=>BM .o7 a k h ia _ _ (aEE ⟨v,a,k⟩ (Hd v) _ _ (λ_=>rfl) v.nlt v.ks _ fa O (w54 v a k e2))) rfl (BW e2)⟩
 ·obtain⟨r,hr,_⟩:=hv.inv.tree;have na:=hv.kl;cases hf:A0 v.ks a.ot with
  |false=>
   have d:=aJ4 (nl:=v.nlt) O hr hf;exact⟨_,By _ (λk _=>BM .o8 a k h ia _ _ (aEC Sm ⟨v,a,k⟩ (Hd v) _ _ (λ_=>rfl) v.nlt v.ks true [] 6 d V (w54 v a k V))) rfl (BW V)⟩
  |true=>
   have d:=aFW (nl:=v.nlt) O hr hf;have ta:(Cx v.ks a.ot).length<=v.ks.length+1:=by
    unfold Cx jD;rw[Qu];exact qN hr _ _
   have q:∀s∈Cx v.ks a.ot,BT s=true:=λs hs=>by
    have:=qM (UD hs);obtain⟨u,hu,e⟩:=NT hf;rcases Qr.1 this with rfl|h
    ·rw[←e];exact hv.inv.name u hu
    ·obtain⟨t,ht,rfl⟩:=Qw.1 h;exact hv.inv.name t ht
   have wa:Cx v.ks a.ot≠[]:=λe=>by
    have h1:(Cx v.ks a.ot).length=(Eb v.ks v.ks.length a.ot).length:=Qu _;rw[e]at h1;cases hk:v.ks.length<;>rw[hk]at h1<;>simp[Eb]at h1
   have ka:∀s∈Cx v.ks a.ot,s.length<=1000000:=λs hs=>by
    have:=q s hs;unfold BT at this;simp only[QB,decide_eq_true_eq]at this;omega
   have hy:H3 (.names false (Cx v.ks a.ot))=0:=if_pos ⟨O,by
    rw[Zn];intro x hx;rw[aHC (q x hx)];decide⟩
   exact⟨_,By (uP (Hd v) (decide (CT v.ks (Cx v.ks a.ot)=[])) (CT v.ks (Cx v.ks a.ot)) false (Cx v.ks a.ot)) (λk _=>BM .o8 a k h ia _ _ (aRb Sm ⟨v,a,k⟩ (Hd v) _ _ false (Cx v.ks a.ot) d (Im v) wa O ka (λe=>Xt))) rfl (DT (.names false (Cx v.ks a.ot)) hy (λe=>Xt) rfl Xo (Ob O) (by simp[uP,DU,TF,Hd,wa]) ⟨by simp[uP,DU,TF,Hd];omega,λx hx=>by
    simp only[uP,DU,TF,Hd,QH]at hx;obtain⟨n,hn,rfl⟩:=Qw.1 hx;exact DO (.inr ⟨rfl,rfl⟩) (aS8 (q n hn)) (QF (P3 (q n hn)) V) (Qi _)⟩ (nR hv ⟨aCo hv.inv a.ot,QF (ZA _ _) na,λk hk=>hv.ok.kp k (QS.1 hk).1⟩))⟩
end Go.Vd
end
