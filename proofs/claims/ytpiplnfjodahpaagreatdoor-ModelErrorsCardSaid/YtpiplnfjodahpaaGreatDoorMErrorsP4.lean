/- A part of the proof; nothing in it is assumed. -/
import Derived.Test.YtpiplnfjodahpaaGreatDoorMErrorsP3
import Derived.Shelf.Strings.Repeat
import Derived.Laws.CopyOwn
import Derived.Shelf.Sort.Plain
import Derived.Shelf.Slices.CompactS
import Derived.Sort.OwnSorted
import Derived.Lib.OwnBridge
import Derived.Shelf.Slices.In.SortNone
import Derived.Laws.EntriesVeiled

set_option linter.unusedSimpArgs false
set_option linter.unusedVariables false
set_option linter.defProp false
set_option maxHeartbeats 4000000
set_option maxRecDepth 100000
open Nat renaming le_of_ble_eq_true→Qa,reduceEqDiff→Qc,reduceAdd→Qe,le_refl→Qg,zero_le→Qi,zero_add→Ql,succ_ne_zero→Qo,zero_ne_one→Qz,le_trans→QE,sub_zero→QK,lt_trichotomy→ZH,not_lt_zero→ZN,reduceLT→ZU,lt_or_ge→ZV
open List renaming length_cons→Qb,getElem?_eq_getElem→Qf,length_nil→Qh,length_append→Qj,filter_cons→Qk,mem_cons_self→Qp,mem_cons→Qq,take_of_length_le→Qs,length_mergeSort→Qt,mem_map→Qv,getElem?_eq_some_iff→Qy,getD→QB,pairwise_iff_getElem→QC,mem_cons_of_mem→QF,nil_append→QG,length_map→QH,getElem_of_mem→QJ,getElem_mem→QL,pairwise_cons→QM,nodup_iff_pairwise_ne→QN,getD_eq_getElem?_getD→QO,getElem?_append_left→QP,mem_append→QQ,mem_filter→QR,take_succ_eq_append_getElem→QS,mem_of_getElem?→QT,map_cons→QV,filter_sublist→QW,drop_zero→QY,drop_eq_nil_of_le→QZ,filter_append→Q_,take_append_drop→Q1,append_assoc→Q2,take_zero→Q3,forall_mem_cons→Q4,length_take→Q5,length_filterMap_le→Q8,map_nil→Q9,getElem?_map→Za,take_add_one→Zb,all_eq_true→Zc,eq_nil_of_length_eq_zero→Zd,mem_of_mem_take→Ze,append_nil→Zf,countP_eq_length_filter→Zg,take_succ_cons→Zh,mem_singleton→Zi,getElem?_append_right→Zj,find?_eq_none→Zk,drop_eq_getElem_cons→Zl,any_eq_false→Zm,find?_append→Zn,not_mem_nil→Zo,take→Zp,take_length→Zr,length_eq_zero_iff→Zs,mem_flatMap→Zt,filter_eq_nil_iff→Zw,map_append→Zy,length_filter_le→Zz,replicate→ZB,mem_of_mem_drop→ZC,mergeSort_perm→ZD,length_pos_iff→ZE,flatMap_cons→ZJ,suffix_cons→ZK,isEmpty_iff→ZL,length→ZM,nodup_cons→ZO,find?_cons→ZP,map_take→ZR,getLast?→ZS,sum_cons→ZT
open Go.Proofs.Tryz renaming prog→Qd
open Int renaming toNat_natCast→Qm,toNat_of_nonneg→QI,toNat_zero→QX,lt_irrefl→Q7,toNat_one→ZF,reduceLE→ZI,le_refl→ZW
open List.cons renaming injEq→Qn,inj→ZZ
open And renaming intro→Qr
open Option.some renaming injEq→Qu,inj→ZY
open Array renaming getElem?_eq_some_iff→Qw,size_push→Q0
open Option renaming map_eq_some_iff→Qx,isSome_some→QD,getD_some→Q6,bind_some→Zq
open Bool renaming and_eq_true→QA,true_or→Zu,or_true→Zv,or_eq_true→Zx,false_and→ZA,false_or→ZG,and_false→ZQ
open Prod.mk renaming injEq→QU
open Iff renaming intro→ZX
open Go.Proofs.Tryz
noncomputable section
namespace Go.Vd
open Go.Proofs Go.RowKit
def P5:=Ap [(218,wQ CL),(221,wQ UX),(223,rdQ uN),(222,Ac aId),(224,wQ UV),(144,wQ NX),(145,wQ cY),(225,wQ aG6),(226,Ac aIb),(227,Ac aH9),(228,Ac aH7)]
def S1:Wb->Oc->List D->Option WY:=RW P5 RG [] 172
def aV9:(wQ S1).ok Qd 154:=CW (Aj func154) (Aa aJJ (Aa aJH (Aa aRi (Aa aTJ (Aa aTH (Aa Rz (Aa gF (Aa aTG (Aa aTF (Aa aTE (Aa aTD Ad)))))))))))
def aCY(w:Wb)(o:Oc)(s:Sc)(v:Bool)(q:Oc)(b:o.nl=true->o.ops=[])(z:CL w o [.str w.a.pa]=some (.tup [.agg (GB s),.bool v,.bool false],q,none)):S1 w o []=some (.tup [],q,none):=by
 refine A3 b ⟨Qa rfl,λh=>((EB z).2.1 rfl),λl h=>Xc,λi m fr t x n g n0=>?_⟩;have c:=Wt.start x n;unfold RG;have y:=AI x.1;unfold GB at *;simp only[↓C2,Gy,GI,Gp,simprocAttr,y,AC P5 218];refine Aq c z (λM c1 u=>?_);simp only[Gv,↓C2,Gp,simprocAttr];exact c1.put.put.end0 x.2.2
def uG(w:Wb)(o:Oc)(s:Sc)(v:Bool)(q:Oc)(ol:Option (List Nat))(b:o.nl=true->o.ops=[])(z:CL w o [.str w.a.pa]=some (.tup [.agg (GB s),.bool v,.bool true],o,none))(j:w.a.op=10)(e:UX w o [.str w.a.pa,.agg (GB s),.int .i64 w.a.cas,.str w.a.da]=some (.tup [],q,ol)):S1 w o []=some (.tup [],q,ol.map (·++[41])):=by
 refine A3 b ⟨Qa rfl,λh=>Cm e h,λl h=>Cl e h,λi m fr t x n g n0=>?_⟩;have f:=Wt.start x n;unfold RG;have c:=AI x.1;unfold GB at *;simp only[↓C2,Gy,GI,Gp,simprocAttr,c,AC P5 218];refine Aq f z (λM c1 r=>?_);have c:=AI c1.at_.1;simp only[Gv,↓C2,Gp,simprocAttr,c,n0,AC P5 221,j];refine Cg c1.put.put e (λM2 u k d d2=>?_);simp only[↓C2,He,simprocAttr];refine aB (λp y=>Xr) ?_;simp only[↓C2,Gy,simprocAttr];exact d.endc x.2.2
def aCX(w:Wb)(o:Oc)(s:Sc)(q:Oc)(ol:Option (List Nat))(b:o.nl=true->o.ops=[])(z:CL w o [.str w.a.pa]=some (.tup [.agg (GB s),.bool false,.bool true],o,none))(e:w.a.op≠10)(qa:w.a.op≠15)(v:NX w o [.int .i64 6]=some (.tup [],q,ol)):S1 w o []=some (.tup [],q,ol.map (·++[35])):=by
 refine A3 b ⟨Qa rfl,λh=>Cm v h,λl h=>Cl v h,λi m fr t x n g n0=>?_⟩;have c:=Wt.start x n;unfold RG;have y:=AI x.1;unfold GB at *;simp only[↓C2,Gy,GI,Gp,simprocAttr,y,AC P5 218];refine Aq c z (λM c1 u=>?_);have y:=AI c1.at_.1;simp only[Gv,↓C2,Gp,simprocAttr,y,n0,eq_false e,eq_false qa,AC P5 144];refine Aq c1.put.put v (λf d r=>?_);simp only[↓C2,Gy,simprocAttr];exact d.endc x.2.2
def uI(w:Wb)(o:Oc)(s:Sc)(q:Oc)(ol:Option (List Nat))(b:o.nl=true->o.ops=[])(z:CL w o [.str w.a.pa]=some (.tup [.agg (GB s),.bool true,.bool true],o,none))(j:w.a.op=14)(qa:cY w o [.agg (GW (.about s))]=some (.tup [],q,ol)):S1 w o []=some (.tup [],q,ol.map (·++[44])):=by
 refine A3 b ⟨Qa rfl,λh=>Cm qa h,λl h=>Cl qa h,λi m fr t x n g n0=>?_⟩;have c:=Wt.start x n;unfold RG;have y:=AI x.1;unfold GB at *;simp only[↓C2,Gy,GI,Gp,simprocAttr,y,AC P5 218];refine Aq c z (λM c1 u=>?_);have y:=AI c1.at_.1;simp only[Gv,↓C2,Gp,simprocAttr,y,n0,AC P5 145,j];refine Aq c1.put.put qa (λf d r=>?_);simp only[↓C2,Gy,simprocAttr];exact d.endc x.2.2
def uH(w:Wb)(o:Oc)(s:Sc)(q:Oc)(ol:Option (List Nat))(e:o.nl=true->o.ops=[])(z:CL w o [.str w.a.pa]=some (.tup [.agg (GB s),.bool true,.bool true],o,none))(j:w.a.op=16)(b:aG6 w o [.agg (GB s)]=some (.tup [],q,ol)):S1 w o []=some (.tup [],q,ol.map (·++[50])):=by
 refine A3 e ⟨Qa rfl,λh=>Cm b h,λl h=>Cl b h,λi m fr t x n g n0=>?_⟩;have c:=Wt.start x n;unfold RG;have y:=AI x.1;unfold GB at *;simp only[↓C2,Gy,GI,Gp,simprocAttr,y,AC P5 218];refine Aq c z (λM c1 u=>?_);have y:=AI c1.at_.1;simp only[Gv,↓C2,Gp,simprocAttr,y,n0,AC P5 225,j];refine Aq c1.put.put b (λf d r=>?_);simp only[↓C2,Gy,simprocAttr];exact d.endc x.2.2
def jO(w:Wb)(o:Oc)(s:Sc)(is:Bool)(k:Oc)(ol:Option (List Nat))(ho:o.nl=true->o.ops=[])(z:CL w o [.str w.a.pa]=some (.tup [.agg (GB s),.bool is,.bool true],o,none))(j:w.a.op=15)(q:Int)(b:Bool)(s2:Sc)(gnl:Bool)(gone:List Int)(e:Int)(v:UV w o [.agg (GB s2),.slice gnl [] (AF gone),.int .i64 e]=some (.tup [],k,ol))(c:uN w o [.str w.a.pa]=some (.agg [.int .i64 q,.bool b],o,none))(d:aId [.agg (GB s),.agg [.int .i64 q,.bool b],.int .i64 w.a.n,.bool w.a.fl]=some (.tup [.agg (GB s2),.slice gnl [] (AF gone),.int .i64 e])):S1 w o []=some (.tup [],k,ol.map (·++[62])):=by
 refine A3 ho ⟨Qa rfl,λh=>Cm v h,λl h=>Cl v h,λi m fr t x f g n0=>?_⟩;have hW:=Wt.start x f;unfold RG;have y:=AI x.1;unfold GB at *;simp only[↓C2,Gy,GI,Gp,simprocAttr,y,AC P5 218];refine Aq hW z (λM c1 u=>?_);have y:=AI c1.at_.1;simp only[Gv,↓C2,Gp,simprocAttr,y,n0,AC P5 223,j];have a1:=aCI (((c1.put (q:=11) (p:=0) (ys:=[.int .i64 0,.bool false,.int .i64 0,.slice true [] []])).put (q:=11) (p:=0) (ys:=[.int .i64 s.mx,.bool s.cas,.int .i64 s.la,.slice s.nl [] (A1 s.rs)])).at_.1);refine aOQ c1.put.put.at_ c ?_;simp only[Gv,↓C2,Gp,simprocAttr,y,n0,Ae P5 222,d];refine Vh ?_;simp only[Gv,↓C2,Gp,simprocAttr,AC P5 224];refine Aq c1.put.put.put.put v (λM2 d1 r=>?_);simp only[↓C2,Gy,simprocAttr];exact d1.endc x.2.2
def jN(w:Wb)(o:Oc)(s:Sc)(q:Oc)(ol:Option (List Nat))(b:o.nl=true->o.ops=[])(z:CL w o [.str w.a.pa]=some (.tup [.agg (GB s),.bool true,.bool true],o,none))(j:w.a.op=11)(p:Sc)(e:Int)(v:UV w o [.agg (GB p),.slice true [] [],.int .i64 e]=some (.tup [],q,ol))(k:aIb [.agg (GB s),.slice w.a.nln [] (AF w.a.ns)]=some (.tup [.agg (GB p),.int .i64 e])):S1 w o []=some (.tup [],q,ol.map (·++[71])):=by
 refine A3 b ⟨Qa rfl,λh=>Cm v h,λl h=>Cl v h,λi m fr t x n g n0=>?_⟩;have c:=Wt.start x n;unfold RG;have y:=AI x.1;unfold GB at *;simp only[↓C2,Gy,GI,Gp,simprocAttr,y,AC P5 218];refine Aq c z (λM c1 u=>?_);have y:=AI c1.at_.1;simp only[Gv,↓C2,Gp,simprocAttr,y,n0,Ae P5 226,k,j];refine Vh ?_;simp only[Gv,↓C2,Gp,simprocAttr,AC P5 224];refine Aq c1.put.put.put.put v (λf d r=>?_);simp only[↓C2,Gy,simprocAttr];exact d.endc x.2.2
def UR(w:Wb)(o:Oc)(s:Sc)(q:Oc)(ol:Option (List Nat))(b:o.nl=true->o.ops=[])(z:CL w o [.str w.a.pa]=some (.tup [.agg (GB s),.bool true,.bool true],o,none))(j:w.a.op=12)(p:Sc)(e:Int)(v:UV w o [.agg (GB p),.slice true [] [],.int .i64 e]=some (.tup [],q,ol))(k:aH9 [.agg (GB s),.slice w.a.nln [] (AF w.a.ns)]=some (.tup [.agg (GB p),.int .i64 e])):S1 w o []=some (.tup [],q,ol.map (·++[78])):=by
 refine A3 b ⟨Qa rfl,λh=>Cm v h,λl h=>Cl v h,λi m fr t x n g n0=>?_⟩;have c:=Wt.start x n;unfold RG;have y:=AI x.1;unfold GB at *;simp only[↓C2,Gy,GI,Gp,simprocAttr,y,AC P5 218];refine Aq c z (λM c1 u=>?_);have y:=AI c1.at_.1;simp only[Gv,↓C2,Gp,simprocAttr,y,n0,Ae P5 227,k,j];refine Vh ?_;simp only[Gv,↓C2,Gp,simprocAttr,AC P5 224];refine Aq c1.put.put.put.put v (λf d r=>?_);simp only[↓C2,Gy,simprocAttr];exact d.endc x.2.2
def cV(w:Wb)(o:Oc)(s:Sc)(q:Oc)(ol:Option (List Nat))(b:o.nl=true->o.ops=[])(z:CL w o [.str w.a.pa]=some (.tup [.agg (GB s),.bool true,.bool true],o,none))(j:w.a.op=13)(p:Sc)(gnl:Bool)(gone:List Int)(e:Int)(v:UV w o [.agg (GB p),.slice gnl [] (AF gone),.int .i64 e]=some (.tup [],q,ol))(k:aH7 [.agg (GB s),.slice w.a.nln [] (AF w.a.ns)]=some (.tup [.agg (GB p),.slice gnl [] (AF gone),.int .i64 e])):S1 w o []=some (.tup [],q,ol.map (·++[81])):=by
 refine A3 b ⟨Qa rfl,λh=>Cm v h,λl h=>Cl v h,λi m fr t x n g n0=>?_⟩;have c:=Wt.start x n;unfold RG;have y:=AI x.1;unfold GB at *;simp only[↓C2,Gy,GI,Gp,simprocAttr,y,AC P5 218];refine Aq c z (λM c1 u=>?_);have y:=AI c1.at_.1;simp only[Gv,↓C2,Gp,simprocAttr,y,n0,Ae P5 228,k,j];refine Vh ?_;simp only[Gv,↓C2,Gp,simprocAttr,AC P5 224];refine Aq c1.put.put.put.put v (λf d r=>?_);simp only[↓C2,Gy,simprocAttr];exact d.endc x.2.2
def G9:=Ap [(218,wQ CL),(144,wQ NX),(219,Ac Nx),(211,Ac ES),(220,Ac N6),(216,wQ UY),(145,wQ cY),(221,wQ UX)]
def Vi:Wb->Oc->List D->Option WY:=RW G9 Nj [] 113
def aWa:(wQ Vi).ok Qd 153:=CW (Aj func153) (Aa aJJ (Aa Rz (Aa aTK (Aa H9 (Aa aJI (Aa aAr (Aa gF (Aa aJH Ad))))))))
def aC0(w:Wb)(o:Oc)(s:Sc)(v:Bool)(q:Oc)(b:o.nl=true->o.ops=[])(z:CL w o [.str w.a.pa]=some (.tup [.agg (GB s),.bool v,.bool false],q,none)):Vi w o []=some (.tup [],q,none):=by
 refine A3 b ⟨Qa rfl,λh=>((EB z).2.1 rfl),λl h=>Xc,λi m fr t x n g n0=>?_⟩;have c:=Wt.start x n;unfold Nj;have y:=AI x.1;unfold GB at *;simp only[↓C2,Gy,GI,Gp,simprocAttr,y,AC G9 218];refine Aq c z (λM c1 u=>?_);simp only[Gv,↓C2,Gp,simprocAttr];exact c1.put.put.end0 x.2.2
def aCZ(w:Wb)(o:Oc)(s:Sc)(q:Oc)(ol:Option (List Nat))(b:o.nl=true->o.ops=[])(z:CL w o [.str w.a.pa]=some (.tup [.agg (GB s),.bool false,.bool true],o,none))(v:NX w o [.int .i64 6]=some (.tup [],q,ol)):Vi w o []=some (.tup [],q,ol.map (·++[20])):=by
 refine A3 b ⟨Qa rfl,λh=>Cm v h,λl h=>Cl v h,λi m fr t x n g n0=>?_⟩;have c:=Wt.start x n;unfold Nj;have y:=AI x.1;unfold GB at *;simp only[↓C2,Gy,GI,Gp,simprocAttr,y,AC G9 218];refine Aq c z (λM c1 u=>?_);have y:=AI c1.at_.1;simp only[Gv,↓C2,Gp,simprocAttr,AC G9 144];refine Aq c1.put.put v (λf d r=>?_);simp only[↓C2,Gy,simprocAttr];exact d.endc x.2.2
def uK(w:Wb)(o:Oc)(s:Sc)(q:Oc)(ol:Option (List Nat))(b:o.nl=true->o.ops=[])(z:CL w o [.str w.a.pa]=some (.tup [.agg (GB s),.bool true,.bool true],o,none))(j:w.a.op=9)(nn e:Int)(c rb:Bool)(p:Nx [.agg (GB s),.int .i64 (w.a.n)]=some (.tup [.agg [.int .i64 nn,.bool c,.bool rb],.int .i64 e]))(r:e≠0)(v:NX w o [.int .i64 e]=some (.tup [],q,ol)):Vi w o []=some (.tup [],q,ol.map (·++[44])):=by
 refine A3 b ⟨Qa rfl,λh=>Cm v h,λl h=>Cl v h,λi m fr t x f g n0=>?_⟩;have hW:=Wt.start x f;unfold Nj;have y:=AI x.1;unfold GB at *;simp only[↓C2,Gy,GI,Gp,simprocAttr,y,AC G9 218];refine Aq hW z (λM c1 u=>?_);have y:=AI c1.at_.1;simp only[Gv,↓C2,Gp,simprocAttr,y,n0,Ae G9 219,p,eq_false r,AC G9 144,j];refine Aq c1.put.put.put.put v (λk d d2=>?_);simp only[↓C2,Gy,simprocAttr];exact d.endc x.2.2
def uJ(w:Wb)(o:Oc)(s:Sc)(o2:Oc)(ol:Option (List Nat))(b:o.nl=true->o.ops=[])(z:CL w o [.str w.a.pa]=some (.tup [.agg (GB s),.bool true,.bool true],o,none))(j:w.a.op=9)(nn:Int)(c rb:Bool)(q:Nx [.agg (GB s),.int .i64 (w.a.n)]=some (.tup [.agg [.int .i64 nn,.bool c,.bool rb],.int .i64 0]))(at_ r:Bs)(d:Bool)(v:ES [.int .u8 2,.str w.a.pa,.int .i64 nn]=some (.str at_))(u:N6 [.agg (G6 w.k),.str at_]=some (.tup [.str r,.bool d,.bool false]))(e:UY w o [.str at_,.bool false]=some (.tup [],o2,ol)):Vi w o []=some (.tup [],o2,ol.map (·++[69])):=by
 refine A3 b ⟨Qa rfl,λh=>Cm e h,λl h=>Cl e h,λi m fr t x f g n0=>?_⟩;have hW:=Wt.start x f;unfold Nj;have xx:=AI x.1;unfold GB at *;unfold G6 at u;simp only[↓C2,Gy,GI,Gp,simprocAttr,xx,AC G9 218];refine Aq hW z (λM c1 c2=>?_);have xx:=AI c1.at_.1;simp only[Gv,↓C2,Gp,simprocAttr,xx,n0,Ae G9 219,q,Ae G9 211,v,j];refine aB (λp y=>Xr) ?_;simp only[Gv,↓C2,Gp,simprocAttr,xx,n0,Ae G9 220,u,AC G9 216];refine Aq c1.put.put.put.put e (λM2 d1 d2=>?_);simp only[↓C2,Gy,simprocAttr];exact d1.endc x.2.2
def cW(w:Wb)(o:Oc)(s:Sc)(e:Oc)(ol:Option (List Nat))(b:o.nl=true->o.ops=[])(z:CL w o [.str w.a.pa]=some (.tup [.agg (GB s),.bool true,.bool true],o,none))(j:w.a.op=9)(nn:Int)(c rb:Bool)(q:Nx [.agg (GB s),.int .i64 (w.a.n)]=some (.tup [.agg [.int .i64 nn,.bool c,.bool rb],.int .i64 0]))(at_ r:Bs)(v:ES [.int .u8 2,.str w.a.pa,.int .i64 nn]=some (.str at_))(u:N6 [.agg (G6 w.k),.str at_]=some (.tup [.str r,.bool true,.bool true]))(qa:cY w o [.agg (GW (.found nn r))]=some (.tup [],e,ol)):Vi w o []=some (.tup [],e,ol.map (·++[81])):=by
 refine A3 b ⟨Qa rfl,λh=>Cm qa h,λl h=>Cl qa h,λi m fr t x f g n0=>?_⟩;have hW:=Wt.start x f;unfold Nj;have xx:=AI x.1;unfold GB at *;unfold G6 at u;simp only[↓C2,Gy,GI,Gp,simprocAttr,xx,AC G9 218];refine Aq hW z (λM c1 c2=>?_);have xx:=AI c1.at_.1;simp only[Gv,↓C2,Gp,simprocAttr,xx,n0,Ae G9 219,q,Ae G9 211,v,j];refine aB (λp y=>Xr) ?_;simp only[Gv,↓C2,Gp,simprocAttr,xx,n0,Ae G9 220,u,AC G9 145,j];refine Aq c1.put.put.put.put qa (λM2 d d2=>?_);simp only[↓C2,Gy,simprocAttr];exact d.endc x.2.2
def US(w:Wb)(o:Oc)(s:Sc)(e:Oc)(ol:Option (List Nat))(b:o.nl=true->o.ops=[])(z:CL w o [.str w.a.pa]=some (.tup [.agg (GB s),.bool true,.bool true],o,none))(j:w.a.op=9)(nn:Int)(c rb:Bool)(q:Nx [.agg (GB s),.int .i64 (w.a.n)]=some (.tup [.agg [.int .i64 nn,.bool c,.bool rb],.int .i64 0]))(at_ r:Bs)(v:ES [.int .u8 2,.str w.a.pa,.int .i64 nn]=some (.str at_))(u:N6 [.agg (G6 w.k),.str at_]=some (.tup [.str r,.bool false,.bool true]))(qa:cY w o [.agg (GW (.found nn []))]=some (.tup [],e,ol)):Vi w o []=some (.tup [],e,ol.map (·++[82])):=by
 refine A3 b ⟨Qa rfl,λh=>Cm qa h,λl h=>Cl qa h,λi m fr t x f g n0=>?_⟩;have hW:=Wt.start x f;unfold Nj;have xx:=AI x.1;unfold GB at *;unfold G6 at u;simp only[↓C2,Gy,GI,Gp,simprocAttr,xx,AC G9 218];refine Aq hW z (λM c1 c2=>?_);have xx:=AI c1.at_.1;simp only[Gv,↓C2,Gp,simprocAttr,xx,n0,Ae G9 219,q,Ae G9 211,v,j];refine aB (λp y=>Xr) ?_;simp only[Gv,↓C2,Gp,simprocAttr,xx,n0,Ae G9 220,u,AC G9 145,j];refine Aq c1.put.put.put.put qa (λM2 d d2=>?_);simp only[↓C2,Gy,simprocAttr];exact d.endc x.2.2
def jQ(w:Wb)(o:Oc)(s:Sc)(q:Oc)(ol:Option (List Nat))(b:o.nl=true->o.ops=[])(z:CL w o [.str w.a.pa]=some (.tup [.agg (GB s),.bool true,.bool true],o,none))(j:w.a.op=18)(nn e:Int)(c rb:Bool)(p:Nx [.agg (GB s),.int .i64 (0)]=some (.tup [.agg [.int .i64 nn,.bool c,.bool rb],.int .i64 e]))(r:e≠0)(v:NX w o [.int .i64 e]=some (.tup [],q,ol)):Vi w o []=some (.tup [],q,ol.map (·++[45])):=by
 refine A3 b ⟨Qa rfl,λh=>Cm v h,λl h=>Cl v h,λi m fr t x n g n0=>?_⟩;have f:=Wt.start x n;unfold Nj;have y:=AI x.1;unfold GB at *;simp only[↓C2,Gy,GI,Gp,simprocAttr,y,AC G9 218];refine Aq f z (λM c1 u=>?_);have y:=AI c1.at_.1;simp only[Gv,↓C2,Gp,simprocAttr,y,n0,Ae G9 219,p,eq_false r,AC G9 144,j];refine Aq c1.put.put.put.put v (λk d d2=>?_);simp only[↓C2,Gy,simprocAttr];exact d.endc x.2.2
def jP(w:Wb)(o:Oc)(s:Sc)(o2:Oc)(ol:Option (List Nat))(b:o.nl=true->o.ops=[])(z:CL w o [.str w.a.pa]=some (.tup [.agg (GB s),.bool true,.bool true],o,none))(j:w.a.op=18)(nn:Int)(c rb:Bool)(q:Nx [.agg (GB s),.int .i64 (0)]=some (.tup [.agg [.int .i64 nn,.bool c,.bool rb],.int .i64 0]))(at_ r:Bs)(d:Bool)(v:ES [.int .u8 2,.str w.a.pa,.int .i64 nn]=some (.str at_))(u:N6 [.agg (G6 w.k),.str at_]=some (.tup [.str r,.bool d,.bool false]))(e:UY w o [.str at_,.bool false]=some (.tup [],o2,ol)):Vi w o []=some (.tup [],o2,ol.map (·++[70])):=by
 refine A3 b ⟨Qa rfl,λh=>Cm e h,λl h=>Cl e h,λi m fr t x n g n0=>?_⟩;have hW:=Wt.start x n;unfold Nj;have f:=AI x.1;unfold GB at *;unfold G6 at u;simp only[↓C2,Gy,GI,Gp,simprocAttr,f,AC G9 218];refine Aq hW z (λM c1 c2=>?_);have f:=AI c1.at_.1;simp only[Gv,↓C2,Gp,simprocAttr,f,n0,Ae G9 219,q,Ae G9 211,v,j];refine aB (λp y=>Xr) ?_;simp only[Gv,↓C2,Gp,simprocAttr,f,n0,Ae G9 220,u,AC G9 216];refine Aq c1.put.put.put.put e (λM2 d1 d2=>?_);simp only[↓C2,Gy,simprocAttr];exact d1.endc x.2.2
def Nt(w:Wb)(o:Oc)(s:Sc)(o2:Oc)(b:o.nl=true->o.ops=[])(z:CL w o [.str w.a.pa]=some (.tup [.agg (GB s),.bool true,.bool true],o,none))(j:w.a.op=18)(nn:Int)(c rb:Bool)(q:Nx [.agg (GB s),.int .i64 (0)]=some (.tup [.agg [.int .i64 nn,.bool c,.bool rb],.int .i64 0]))(at_ r:Bs)(v:ES [.int .u8 2,.str w.a.pa,.int .i64 nn]=some (.str at_))(u:N6 [.agg (G6 w.k),.str at_]=some (.tup [.str r,.bool true,.bool true]))(s2:Sc)(e:Bool)(d:CL w o [.str w.a.ot]=some (.tup [.agg (GB s2),.bool e,.bool false],o2,none)):Vi w o []=some (.tup [],o2,none):=by
 refine A3 b ⟨Qa rfl,λh=>((EB d).2.1 rfl),λl h=>Xc,λi m fr t x n g n0=>?_⟩;have hW:=Wt.start x n;unfold Nj;have f:=AI x.1;unfold GB at *;unfold G6 at u;simp only[↓C2,Gy,GI,Gp,simprocAttr,f,AC G9 218];refine Aq hW z (λM c1 c2=>?_);have f:=AI c1.at_.1;simp only[Gv,↓C2,Gp,simprocAttr,f,n0,Ae G9 219,q,Ae G9 211,v,j];refine aB (λp y=>Xr) ?_;simp only[Gv,↓C2,Gp,simprocAttr,f,n0,Ae G9 220,u,AC G9 218,j];refine Aq c1.put.put.put.put d (λM2 d1 d2=>?_);have f:=AI d1.at_.1;simp only[Gv,↓C2,Gp,simprocAttr];exact d1.put.put.end0 x.2.2
def cX(w:Wb)(o:Oc)(s:Sc)(o2:Oc)(ol:Option (List Nat))(b:o.nl=true->o.ops=[])(z:CL w o [.str w.a.pa]=some (.tup [.agg (GB s),.bool true,.bool true],o,none))(j:w.a.op=18)(nn:Int)(ra rb:Bool)(q:Nx [.agg (GB s),.int .i64 (0)]=some (.tup [.agg [.int .i64 nn,.bool ra,.bool rb],.int .i64 0]))(at_ r:Bs)(v:ES [.int .u8 2,.str w.a.pa,.int .i64 nn]=some (.str at_))(c:N6 [.agg (G6 w.k),.str at_]=some (.tup [.str r,.bool true,.bool true]))(s2:Sc)(e:Bool)(d:CL w o [.str w.a.ot]=some (.tup [.agg (GB s2),.bool e,.bool true],o,none))(ka:UX w o [.str w.a.ot,.agg (GB s2),.int .i64 (-1),.str r]=some (.tup [],o2,ol)):Vi w o []=some (.tup [],o2,ol.map (·++[101])):=by
 refine A3 b ⟨Qa rfl,λh=>Cm ka h,λl h=>Cl ka h,λi m fr t x n g n0=>?_⟩;have hW:=Wt.start x n;unfold Nj;have xx:=AI x.1;unfold GB at *;unfold G6 at c;simp only[↓C2,Gy,GI,Gp,simprocAttr,xx,AC G9 218];refine Aq hW z (λM c1 c2=>?_);have xx:=AI c1.at_.1;simp only[Gv,↓C2,Gp,simprocAttr,xx,n0,Ae G9 219,q,Ae G9 211,v,j];refine aB (λp y=>Xr) ?_;simp only[Gv,↓C2,Gp,simprocAttr,xx,n0,Ae G9 220,c,AC G9 218,j];refine Aq c1.put.put.put.put d (λM2 d1 d2=>?_);have xx:=AI d1.at_.1;simp only[Gv,↓C2,Gp,simprocAttr,xx,n0,AC G9 221];refine Cg d1.put.put ka (λM3 u hu e1 f=>?_);simp only[↓C2,He,simprocAttr];refine aB (λp y=>Xr) ?_;simp only[↓C2,Gy,simprocAttr];exact e1.endc x.2.2
def MA(w:Wb)(o:Oc)(s:Sc)(o2:Oc)(b:o.nl=true->o.ops=[])(z:CL w o [.str w.a.pa]=some (.tup [.agg (GB s),.bool true,.bool true],o,none))(j:w.a.op=18)(nn:Int)(c rb:Bool)(q:Nx [.agg (GB s),.int .i64 (0)]=some (.tup [.agg [.int .i64 nn,.bool c,.bool rb],.int .i64 0]))(at_ r:Bs)(v:ES [.int .u8 2,.str w.a.pa,.int .i64 nn]=some (.str at_))(u:N6 [.agg (G6 w.k),.str at_]=some (.tup [.str r,.bool false,.bool true]))(s2:Sc)(e:Bool)(d:CL w o [.str w.a.ot]=some (.tup [.agg (GB s2),.bool e,.bool false],o2,none)):Vi w o []=some (.tup [],o2,none):=by
 refine A3 b ⟨Qa rfl,λh=>((EB d).2.1 rfl),λl h=>Xc,λi m fr t x n g n0=>?_⟩;have hW:=Wt.start x n;unfold Nj;have f:=AI x.1;unfold GB at *;unfold G6 at u;simp only[↓C2,Gy,GI,Gp,simprocAttr,f,AC G9 218];refine Aq hW z (λM c1 c2=>?_);have f:=AI c1.at_.1;simp only[Gv,↓C2,Gp,simprocAttr,f,n0,Ae G9 219,q,Ae G9 211,v,j];refine aB (λp y=>Xr) ?_;simp only[Gv,↓C2,Gp,simprocAttr,f,n0,Ae G9 220,u,AC G9 218,j];refine Aq c1.put.put.put.put d (λM2 d1 d2=>?_);have f:=AI d1.at_.1;simp only[Gv,↓C2,Gp,simprocAttr];exact d1.put.put.end0 x.2.2
def UT(w:Wb)(o:Oc)(s:Sc)(o2:Oc)(ol:Option (List Nat))(b:o.nl=true->o.ops=[])(z:CL w o [.str w.a.pa]=some (.tup [.agg (GB s),.bool true,.bool true],o,none))(j:w.a.op=18)(nn:Int)(ra rb:Bool)(q:Nx [.agg (GB s),.int .i64 (0)]=some (.tup [.agg [.int .i64 nn,.bool ra,.bool rb],.int .i64 0]))(at_ r:Bs)(v:ES [.int .u8 2,.str w.a.pa,.int .i64 nn]=some (.str at_))(c:N6 [.agg (G6 w.k),.str at_]=some (.tup [.str r,.bool false,.bool true]))(s2:Sc)(e:Bool)(d:CL w o [.str w.a.ot]=some (.tup [.agg (GB s2),.bool e,.bool true],o,none))(ka:UX w o [.str w.a.ot,.agg (GB s2),.int .i64 (-1),.str []]=some (.tup [],o2,ol)):Vi w o []=some (.tup [],o2,ol.map (·++[102])):=by
 refine A3 b ⟨Qa rfl,λh=>Cm ka h,λl h=>Cl ka h,λi m fr t x n g n0=>?_⟩;have hW:=Wt.start x n;unfold Nj;have xx:=AI x.1;unfold GB at *;unfold G6 at c;simp only[↓C2,Gy,GI,Gp,simprocAttr,xx,AC G9 218];refine Aq hW z (λM c1 c2=>?_);have xx:=AI c1.at_.1;simp only[Gv,↓C2,Gp,simprocAttr,xx,n0,Ae G9 219,q,Ae G9 211,v,j];refine aB (λp y=>Xr) ?_;simp only[Gv,↓C2,Gp,simprocAttr,xx,n0,Ae G9 220,c,AC G9 218,j];refine Aq c1.put.put.put.put d (λM2 d1 d2=>?_);have xx:=AI d1.at_.1;simp only[Gv,↓C2,Gp,simprocAttr,xx,n0,AC G9 221];refine Cg d1.put.put ka (λM3 u hu e1 f=>?_);simp only[↓C2,He,simprocAttr];refine aB (λp y=>Xr) ?_;simp only[↓C2,Gy,simprocAttr];exact e1.endc x.2.2
def aLm:=y0 f141 [] []
def aL7:=y0 f85 [] []
end Go.Vd
namespace Go.Proofs
open Go.Shelf
def aS:Go.Shelf.Ren:=⟨λ|105=>84|212=>139|99=>51|165=>121|166=>122|170=>140|169=>123|263=>204|264=>205|206=>105|240=>183|241=>184|276=>245|277=>246|n=>n,λ|9=>9|3=>3|4=>4|20=>20|0=>0|46=>109|109=>221|5=>5|72=>196|76=>200|51=>268|146=>269|53=>185|148=>271|70=>194|37=>108|75=>199|127=>252|164=>309|80=>159|n=>n,λ|n=>n⟩
def bI:Go.Proofs.Lays.n105 Qd aS:={
 mixed:=Z
 f99:=func51.trans (congrArg some Z)
 f105:=func84.trans (congrArg some Z)
 f165:=func121.trans (congrArg some Z)
 f166:=func122.trans (congrArg some Z)
 f169:=func123.trans (congrArg some Z)
 f170:=func140.trans (congrArg some Z)
 f206:=func105.trans (congrArg some Z)
 f212:=func139.trans (congrArg some Z)
 f240:=func183.trans (congrArg some Z)
 f241:=func184.trans (congrArg some Z)
 f263:=func204.trans (congrArg some Z)
 f264:=func205.trans (congrArg some Z)
 f276:=func245.trans (congrArg some Z)
 f277:=func246.trans (congrArg some Z)
 t0:=underlying0
 a0:=isAgg0
 z0:=sizeOf0
 v0:=zeroValue0
 t3:=underlying3
 a3:=isAgg3
 z3:=sizeOf3
 v3:=zeroValue3
 t4:=underlying4
 a4:=isAgg4
 z4:=sizeOf4
 v4:=zeroValue4
 t5:=underlying5
 a5:=isAgg5
 z5:=sizeOf5
 v5:=zeroValue5
 t9:=underlying9
 a9:=isAgg9
 z9:=sizeOf9
 v9:=zeroValue9
 t20:=underlying20
 a20:=isAgg20
 z20:=sizeOf20
 v20:=zeroValue20
 t37:=underlying108
 a37:=isAgg108
 z37:=sizeOf108
 v37:=zeroValue108
 t46:=underlying109
 a46:=isAgg109
 z46:=sizeOf109
 v46:=zeroValue109
 t51:=underlying268
 a51:=isAgg268
 z51:=sizeOf268
 v51:=zeroValue268
 t53:=underlying185
 a53:=isAgg185
 z53:=sizeOf185
 v53:=zeroValue185
 t70:=underlying194
 a70:=isAgg194
 z70:=sizeOf194
 v70:=zeroValue194
 t72:=underlying196
 a72:=isAgg196
 z72:=sizeOf196
 v72:=zeroValue196
 t75:=underlying199
 a75:=isAgg199
 z75:=sizeOf199
 v75:=zeroValue199
 t76:=underlying200
 a76:=isAgg200
 z76:=sizeOf200
 v76:=zeroValue200
 t109:=underlying221
 a109:=isAgg221
 z109:=sizeOf221
 v109:=zeroValue221
 t127:=underlying252
 a127:=isAgg252
 z127:=sizeOf252
 v127:=zeroValue252
 t146:=underlying269
 a146:=isAgg269
 z146:=sizeOf269
 v146:=zeroValue269
 t148:=underlying271
 a148:=isAgg271
 z148:=sizeOf271
 v148:=zeroValue271
 t164:=underlying309
 a164:=isAgg309
 z164:=sizeOf309
 v164:=zeroValue309}
def aT:Builder.Extra Qd aS:={
 sizeBuilder:=Z
 liesBuilder:=Z
 t5:=underlying5
 a5:=isAgg5
 z5:=sizeOf5
 v5:=zeroValue5
 infoByte:=Z
 cellsByte:=Z
 sizeByte:=Z
 neB5:=V}
end Go.Proofs
namespace Go.Vd
open Go.Proofs Go.RowKit
def zR(t:Int):Bool:=decide (1<=t∧t<=6)
def Rx(t:Int):Int:=if zR t=true then 1+t*16 else 0
def aWS:=Ap []
def aQe:=RF aWS aLm [.t 2] 9
def aTw:Kq aQe 141:=An (Aj func141) Ad
def aHX(t:Int):aQe [.int .i64 t]=some (.bool (zR t)):=by
 refine Am (Qa rfl) ?_;unfold aLm;unfold zR;by_cases c:1<=t
 ·have c':((1:Int)<=t)=True:=eq_true c;simp only[↓C2,Gt,Gp,simprocAttr,c']
  all_goals exact YT
 ·have c':((1:Int)<=t)=False:=eq_false c;simp only[↓C2,Gt,Gp,simprocAttr,c']
  all_goals exact YT
def aPF:=Ap [(141,Ac aQe)]
def aDr:=RF aPF aL7 [.t 2] 9
def aJM:Kq aDr 85:=An (Aj func85) (Aa aTw Ad)
def oO(t:Int):aDr [.int .i64 t]=some (.int .i64 (Rx t)):=by
 refine Am (Qa rfl) ?_;unfold aL7;have a:=aHX t;unfold Rx;cases c:zR t with
 |false=>
  rw[c]at a;simp only[↓C2,Gt,Gp,simprocAttr,Ae aPF 141,a]
  all_goals exact YT
 |true=>
  have o:1<=t∧t<=6:=by simpa[zR]using c
  have f:IntKind.i64.wrap (t*16)=t*16:=GS O O;have i:IntKind.i64.wrap (1+t*16)=1+t*16:=GS O O;rw[c]at a;simp only[↓C2,Gt,Gp,simprocAttr,Ae aPF 141,a,f,i]
  all_goals exact YT
def RP:List D->Option D
 |[.str s,.int .i64 c]=>if 0<=c∧c<=1000000∧s.length*c.toNat<=1000000 then some (.str (Lib.repeatL s c.toNat))else none
 |_=>none
def aJN:Kq RP 84:=TI ⟨_,func84,Z,Z⟩ λds r h=>by
 unfold RP at h;split at h
 ·rename_i s c;split at h
  ·rename_i y;simp only[Qu]at h;subst h;refine⟨λd p=>?_,_,λw g=> .str _,λw=>?_⟩
   ·simp only[Qq,List.mem_nil_iff,or_false]at p;rcases p with rfl|rfl<;>rfl
   ·have f:=Go.Proofs.Any.strings_Repeat bI aT ⟨s.toArray⟩ c.toNat w O (by show s.toArray.size*_<=_;simp only[List.size_toArray];omega);rw[QI y.1]at f;refine f.mono ?_;rintro e t ⟨rfl,o⟩;exact⟨rfl,o⟩
  ·cases h
 ·cases h
def aVd{s:Bs}{c:Int}(h:0<=c∧c<=1000000∧s.length*c.toNat<=1000000):RP [.str s,.int .i64 c]=some (.str (Lib.repeatL s c.toNat)):=if_pos h
def aFy(o:Oc)(te:Int):Oc:={({o with vw:={o.vw with te:=te+1}}:Oc).op 1 (AX 5 [] 0) (Lib.repeatL [0] (Rx (te+1)).toNat)with rep:=Hg .done}
def S57:=Ap [(144,wQ NX),(211,Ac ES),(85,Ac aDr),(84,Ac RP),(210,wQ Nu),(146,wQ vS)]
def W57:Wb->Oc->List D->Option WY:=RW S57 aO2 [] 34
def aWg:(wQ W57).ok Qd 147:=CW (Aj func147) (Aa Rz (Aa H9 (Aa aJM (Aa aJN (Aa L6 (Aa gE Ad))))))
def aC8(w:Wb)(o:Oc)(q:Oc)(ol:Option (List Nat))(b:o.nl=true->o.ops=[])(k:6<=w.v.te)(j:NX w o [.int .i64 19]=some (.tup [],q,ol)):W57 w o []=some (.tup [],q,ol.map (·++[7])):=by
 refine A3 b ⟨Qa rfl,λh=>Cm j h,λl h=>Cl j h,λi m fr t x n g n0=>?_⟩;have c:=Wt.start x n;unfold aO2;have y:=AI x.1;simp only[↓C2,Gy,GI,Gp,simprocAttr,y,eq_true k,AC S57 144];refine Aq c j (λM c1 u=>?_);simp only[↓C2,Gy,simprocAttr];exact c1.endc x.2.2
def aPp(w:Wb)(o:Oc)(te:Int)(q:eF o)(ht:¬6<=w.v.te)(y:o.vw.te=te)(f:0<=te∧te<=5):W57 w o []=some (.tup [],aFy o te,some ([11,28])):=by
 refine A3 (λ_=>q.ops) ⟨Qa rfl,λh=>Xc,λl h=>XC,λi m fr t x n g n0=>?_⟩;have hW:=Wt.start x n;unfold aO2;have xx:=AI x.1;have b:IntKind.i64.wrap (te+1)=te+1:=GS O O;have j:=CF 5 0 [] U;have a:=oO (te+1);have hl:0<=Rx (te+1)∧Rx (te+1)<=1000:=by unfold Rx;split<;>omega
 have d:=aVd (s:=[0]) (c:=Rx (te+1)) ⟨hl.1,O,Yy⟩;have e:=Dw w {o with vw:={o.vw with te:=te+1}} 1 (AX 5 [] 0) (Lib.repeatL [0] (Rx (te+1)).toNat) (λ_=>q.ops) (by simp only[q.ops];simp);have va:=Is w (({o with vw:={o.vw with te:=te+1}}:Oc).op 1 (AX 5 [] 0) (Lib.repeatL [0] (Rx (te+1)).toNat)) (λh=>Xc);have k:=hW.cellp (p:=26) (ys:=[.int .i64 (te+1)]) (o':={o with vw:={o.vw with te:=te+1}}) (Qa rfl) rfl rfl rfl;simp only[Gv,↓C2,Gp,simprocAttr,xx,eq_false ht,b,Ae S57 211,j,Ae S57 85,a,Ae S57 84,d,AC S57 210,y];refine Cg k e (λM u z c1 r=>?_);simp only[↓C2,He,simprocAttr];refine aB ?_ ?_
 ·intro pp ga l hl;simp only[Qq,Zo,or_false]at ga;subst ga;exact Dn hl
 simp only[↓C2,Gy,GI,simprocAttr,AC S57 146];refine Aq c1 va (λM2 d1 d2=>?_);simp only[↓C2,Gy,simprocAttr];exact d1.endl (l:=[11,28]) U
def aBD:=y0 Tryz.f212 [] []
def aRo{P:Program}{f:FuncId}{A B:List D->Option D}(k:(Ac A).ok P f)(d:(Ac B).ok P f):(Ac λds=>(A ds).or (B ds)).ok P f:=by
 refine⟨k.1,λds m m' fr _=>rfl,?_⟩;intro a w0 w m g fr ds vs r u hi p hl c z;have h:(Ac A).ex ds m fr=some (r,u)∨(Ac B).ex ds m fr=some (r,u):=by
  simp only[Ac]at z ⊢;split at z
  ·rename_i y;simp only[y,if_true];cases ha:A (ds.map D.un)with
   |none=>rw[ha]at z;exact .inr z
   |some x=>rw[ha]at z;exact .inl z
  ·cases z
 rcases h with h|h
 ·obtain⟨_,_,i⟩:=k;exact i hi p hl c h
 ·obtain⟨_,_,i⟩:=d;exact i hi p hl c h
def growZ:G_ where
 rd:=λ_ _=>[]
 ex:=λds _ _=>match ds with
  |[.slice true _ [],.int .i64 0]=>some (.slice true [] [],[])
  |_=>none
def wC(w:World):Calls Qd 250 #[.slice none 0 0,.int .i64 0] w λe s=>e= .returned (.slice none 0 0)∧s=w:=by
 go_enter func250,ntmps250
 go_wp2
 all_goals go_ret
 all_goals exact YY
def aV5:growZ.ok Qd 250:=by
 refine⟨⟨_,func250,Z,Z⟩,λds m m' fr _=>rfl,?_⟩;intro B w0 w m g fr ds vs r u hi p hl c z;simp only[growZ]at z;split at z
 ·simp only[Qu,QU]at z;obtain⟨rfl,rfl⟩:=z
  match vs,hl with
  |[v0,v1],_=>
   have n:=c 0 _ v0 rfl rfl;have x:=(c 1 _ v1 rfl rfl).int_inv;subst x;have b:v0= .slice none 0 0:=by
    rcases n.slice_inv with ⟨_,_,e⟩|⟨h,_⟩
    ·exact e
    ·cases h
   subst b;refine(wC w).mono ?_;rintro ev s ⟨rfl,v⟩;subst v;have o:=Below.refl s.heap.size s;exact⟨_,g.over s s,rfl,hi.over o,GR.over hi.gz o,.nils _,λi k _=>k⟩
 ·cases z
def aMy:=Ap [(250,growZ)]
def aDQ:=RF aMy (FS 9 68 3 32 250) [.t 2] 36
def aOr:Kq aDQ 190:=An aA8 (Aa aV5 Ad)
def aAX{m:Gu}{fr:Id}:growZ.ex [.slice true [] [],.int .i64 0] m fr=some (.slice true [] [],[]):=rfl
def aDP{t:Id}:aDQ [.slice false [] [.slice false [] [],.slice false [] []]]=some (.slice true [] []):=by
 refine Am (Qa rfl) ?_;have a:aMy 250=some growZ:=rfl;have w0:IntKind.i64.wrap 0=0:=rfl;have c:IntKind.i64.wrap 1=1:=rfl;have i:IntKind.i64.wrap 2=2:=rfl;have y0:((0:Nat):Int)=0:=rfl;have y1:((1:Nat):Int)=1:=rfl;have y2:((2:Nat):Int)=2:=rfl;have b:(0:Int)+1=1:=rfl;have r:(1:Int)+1=2:=rfl;unfold FS;simp only[↓C2,Gy,Gp,simprocAttr,Qh,Qb];refine Af (Lw.eq_1 _) ?_;simp only[↓C2,Gt,Gp,simprocAttr,y0,w0,c,b,QX,Qh,Qb];refine Af (Lw.eq_1 _) ?_;simp only[↓C2,Gt,Gp,simprocAttr,y0,w0,i,r,ZF,Qh,Qb];refine Af (Lw.eq_1 _) ?_;simp only[↓C2,Gt,Gp,simprocAttr,AD a,aAX,Qh,Qb];refine Af (Lv.eq_1 _ _ _) ?_;simp only[↓C2,Gt,Gp,simprocAttr,c,b,QX,Qh,Qb];refine Af (Lv.eq_1 _ _ _) ?_;simp only[↓C2,Gt,Gp,simprocAttr,i,r,ZF,Qh,Qb];refine Af (Lv.eq_1 _ _ _) ?_;simp only[↓C2,Gt,Gp,simprocAttr]
 all_goals exact YU
def N2(l:List Mt)(p:Bs):List Mt:=l.take (B0 l p).toNat++l.drop ((B0 l p).toNat+1)
def dZ:List D->Option D:=λds=>(N0 ds).or (aDQ ds)
def aOs:Kq dZ 190:=aRo (aSi aJm) aOr
def aEF{a b:List Mt}(h:a.length+b.length<=1000):dZ [.slice false [] [.slice false [] (AA a),.slice false [] (AA b)]]=some (.slice (decide (a++b=[])) [] (AA (a++b))):=by
 by_cases c:a++b=[]
 ·obtain⟨rfl,rfl⟩:=List.append_eq_nil_iff.1 c;unfold dZ;rw[show AA []=[]from rfl,aDP (t:=[])];rfl
 ·grind [N0,AA,EM,AV,lW,dZ]
def aHd:=Ap [(187,Ac aEI),(190,Ac dZ)]
def uX:=RF aHd aBD [.cell (some 1) 4,.t 5] 25
def aTM:Kq uX 212:=An (Aj func212) (Aa zC (Aa aOs Ad))
def aIg(nl:Bool)(l:List Mt)(p:Bs)(hl:l.length<=1000)(k:B0 l p<0):uX [.agg [.slice nl [] (AA l)],.str p]=some (.tup [.agg [.slice nl [] (AA l)],.int .i64 14]):=by
 refine Am (Qa rfl) ?_;unfold aBD;have z:=OS (nl:=nl) (t:=[]) (l:=l) (p:=p) O;simp only[Gv,↓C2,Gp,simprocAttr,Ae aHd 187,z,eq_true k]
 all_goals exact YT
def aDo(nl:Bool)(l:List Mt)(p:Bs)(hl:l.length<=1000)(o:nl=true->l=[])(k:¬B0 l p<0)(hi:(B0 l p).toNat<l.length):uX [.agg [.slice nl [] (AA l)],.str p]=some (.tup [.agg [.slice (decide (N2 l p=[])) [] (AA (N2 l p))],.int .i64 0]):=by
 refine Am (Qa rfl) ?_;unfold aBD;have z:=OS (nl:=nl) (t:=[]) (l:=l) (p:=p) O;have n:nl=false:=by
  grind
 subst n;unfold N2;generalize B0 l p=q at *;have j:(0:Int)<=q:=O
 have w:((q.toNat:Nat):Int)=q:=QI j;have v:IntKind.i64.wrap (q+1)=q+1:=GS O O;have f:(q+1).toNat=q.toNat+1:=O
 have c:=aEF (a:=l.take q.toNat) (b:=l.drop (q.toNat+1)) YE;have r:aF (AA l) 3=3:=XH
 have i:q.toNat<=l.length:=O
 have u:q.toNat+1<=l.length:=O
 have m:(q<=(l.length:Int))=True:=eq_true O;have d:(q+1<=(l.length:Int))=True:=eq_true O;have g:(0:Int)<=q+1:=O
 have x:Zp q.toNat (AA l)=AA (l.take q.toNat):=(ZR ..).symm;have e:List.drop (q.toNat+1) (AA l)=AA (l.drop (q.toNat+1)):=(List.map_drop ..).symm;have s:Zp (l.length-(q.toNat+1)) (AA (l.drop (q.toNat+1)))=AA (l.drop (q.toNat+1)):=Qs (by rw[AV,List.length_drop];omega);simp only[Gv,↓C2,Gp,simprocAttr,Ae aHd 187,z,eq_false k,v,AV,j,f,r,g,m,d,QY,x,e,s,Qg,Ae aHd 190,c];refine aB (λp y=>Xr) ?_;simp only[Gv,↓C2,Gp,simprocAttr]
 all_goals exact YT
def Ht(a:Ak):(GO a)[0]?=some (.int .u8 a.op):=rfl
def SZ(a:Ak):(GO a)[2]?=some (.str a.pa):=rfl
def nS(a:Ak):(GO a)[3]?=some (.str a.ot):=rfl
def aCQ(a:Ak):(GO a)[10]?=some (.str a.key):=rfl
def Hl(v:Vw):(Hc v)[0]?=some (.bool v.se):=rfl
def R0(v:Vw):(Hc v)[2]?=some (.str v.key):=rfl
def kJ(v:Vw):(Hc v)[3]?=some (.slice v.nlm [] (AA v.ms)):=rfl
def yL{m:Gu}{v:Vw}{a:Ak}:Ag ((m.put [0] 0 (Hc v)).put [1] 0 (GO a)) [0] 0 5=some (Hc v):=by
 grind [AE,As,Ck]
def VW{m:Gu}{a:Ak}:Ag (m.put [1] 0 (GO a)) [1] 0 11=some (GO a):=As (AR a)
def aNE{m:Gu}{x:List D}{n:Nat}:Ag (m.put [14] 0 x) [0] 0 n=Ag m [0] 0 n:=AE V
open Classical in
def aIQ{nl:Bool}{l:List Mt}{p:Bs}(hl:l.length<=1000000):aEC [.agg [.slice nl [] (AA l)],.str p]=some (.tup (if B0 l p<0 then [MI ([],0,false),.int .i64 14]else [MI (Cu l (B0 l p).toNat),.int .i64 0])):=by
 have h:AA l=AA (Da (AA l))∧(AA l).length<=1000000:=XS
 show(if _ then _ else _)=_;rw[if_pos h,By]
open Classical in
def aIP{v:Vw}{p:Bs}(hl:v.ms.length<=1000000):aEB [Hv v,.str p]=some (.bool (decide (Ch v.ms p≠-1))):=by
 have h:AA v.ms=AA (Da (AA v.ms))∧(AA v.ms).length<=1000000:=XS
 show(if _ then _ else _)=_;rw[if_pos h,By]
def M7(v:Vw)(a:Ak):Bool:=decide (a.op<=8)||(((decide (a.op=17)&&decide (0<=B0 v.ms a.pa))||decide (Ch v.ms a.pa≠-1))&&(decide (a.op≠18)||decide (Ch v.ms a.ot≠-1)))
def F70:List D->Option D:=FX Li (λp=>P3 p.1) (λp=> .bool (M7 p.1 p.2))
def aQn{v:Vw}{a:Ak}(h:P3 v):F70 [Hv v,GT a]=some (.bool (M7 v a)):=BO (mk:=Li) (a:=(v,a)) Pg h
def aVM:Kq F70 209:=by
 obtain⟨S,s,hl⟩:=Bd (Aa aJp (Aa aR5 (Aa aR4 Ad)));have c:=hl 262 _ rfl;have i:=hl 265 _ rfl;have m:=hl 266 _ rfl;clear hl;refine CI s (Aj func209:Fn Qd 209 44 aT7 [.t 4]) (λ_=>by simp[Li]) (λp x=>?_);obtain⟨v,a⟩:=p;simp only at x;have va:=x.ml;have f:aED [.int .u8 a.op]=some (.bool (decide (a.op<=8))):=rfl;have b:=aIQ (nl:=v.nlm) (l:=v.ms) (p:=a.pa) O;have k:∀q,aEB [.agg (Hc v),.str q]=some (.bool (decide (Ch v.ms q≠-1))):=λq=>aIP O
 have d:=k a.pa;have j:=k a.ot;unfold aT7 Li Hv GT M7;simp only;by_cases w:a.op<=8
 ·rw[decide_eq_true w]at f;simp only[↓C2,Gt,simprocAttr,Ht,Hl,Bi,Ck,AL,AR,Ql,ne_eq,Zu,Ah,Qi,QK,Ql,and_self,Qn,Qo,w,Ab c,f]
 ·rw[decide_eq_false w]at f;generalize decide (Ch v.ms a.pa≠-1)=b1 at d ⊢;generalize decide (Ch v.ms a.ot≠-1)=u at j ⊢;generalize B0 v.ms a.pa=o at b ⊢;clear k;by_cases la:a.op=17
  ·have h:(a.op=17)=True:=eq_true la;have g:(a.op=18)=False:=eq_false O;clear la;by_cases hf:o<0
   ·have n:¬0<=o:=by omega
    rw[if_pos hf]at b;cases b1<;>simp only[↓C2,GJ,simprocAttr,Ht,SZ,nS,Hl,R0,kJ,LT,aNE,As,yL,HG,HH,Bi,Ck,AL,AR,ne_eq,Zu,ZG,Zv,ZQ,Ah,QD,Qn,Qz,Qo,w,n,h,g,Ab c,f,Ab i,b,Ab m,d,MI]
   ·have n:0<=o:=by omega
    rw[if_neg hf]at b;generalize Cu v.ms o.toNat=y at b;simp only[↓C2,GJ,simprocAttr,Ht,SZ,nS,Hl,R0,kJ,LT,As,Bi,Ck,AL,AR,ne_eq,Zu,Zv,Ah,QD,Qn,Qz,Qo,w,n,h,g,Ab c,f,Ab i,b,MI]
  ·have h:(a.op=17)=False:=eq_false la;obtain⟨y,e,r⟩:∃(y:Mt)(e:Int),aEC [.agg [.slice v.nlm [] (AA v.ms)],.str a.pa]=some (.tup [MI y,.int .i64 e]):=by
    grind
   clear b;by_cases z:a.op=18
   ·have g:(a.op=18)=True:=eq_true z;clear z la;cases b1<;>cases u<;>simp only[↓C2,GJ,simprocAttr,Ht,SZ,nS,Hl,R0,kJ,LT,aNE,As,yL,HG,HH,Bi,Ck,AL,AR,ne_eq,ZA,ZG,Zv,ZQ,Ah,QD,Qn,Qz,and_false,Qo,w,h,g,Ab c,f,Ab i,r,Ab m,d,j,MI]
   ·have g:(a.op=18)=False:=eq_false z;clear z la;cases b1<;>simp only[↓C2,GJ,simprocAttr,Ht,SZ,nS,Hl,R0,kJ,LT,aNE,As,yL,HG,HH,Bi,Ck,AL,AR,ne_eq,ZA,Zu,ZG,Zv,Ah,QD,Qn,Qz,Qo,w,h,g,Ab c,f,Ab i,r,Ab m,d,MI]
def LS(v:Vw)(a:Ak):Int:=if B5 a≠0 then B5 a else if a.op=1 then 0 else if a.op=2 then(if v.se=false then 9 else if a.key≠v.key then 11 else 0)else if v.se=true then 12 else if Sr v a=false then 13 else if M7 v a=false then 14 else 0
def vV:List D->Option D:=FX Li (λp=>P3 p.1∧G7 p.2) (λp=> .int .i64 (LS p.1 p.2))
def U7{v:Vw}{a:Ak}(h:P3 v)(z:G7 a):vV [Hv v,GT a]=some (.int .i64 (LS v a)):=BO (mk:=Li) (a:=(v,a)) Pg ⟨h,z⟩
def aVU:Kq vV 143:=by
 obtain⟨S,s,hl⟩:=Bd (Aa aVO (Aa aVN (Aa aVM Ad)));have c:=hl 207 _ rfl;have g:=hl 208 _ rfl;have k:=hl 209 _ rfl;clear hl;refine CI s (Aj func143:Fn Qd 143 52 aUn [.t 4]) (λ_=>by simp[Li]) (λp y=>?_);obtain⟨v,a⟩:=p;obtain⟨m,x⟩:=y;simp only at m x;have b:F68 [.agg (GO a)]=some (.int .i64 (B5 a)):=aQp x;have d:F69 [.agg (Hc v),.agg (GO a)]=some (.bool (Sr v a)):=aQo m;have h:F70 [.agg (Hc v),.agg (GO a)]=some (.bool (M7 v a)):=aQn m;unfold aUn Li Hv GT LS;simp only;generalize B5 a=e at b ⊢;generalize Sr v a=b1 at d ⊢;generalize M7 v a=q at h ⊢;by_cases w:e=0
 ·subst w;by_cases u:a.op=1
  ·have r:(a.op=1)=True:=eq_true u;clear u;simp only[↓C2,Gt,simprocAttr,Ht,Hl,VW,Bi,Ck,BA,BB,AL,AR,Ql,ne_eq,Ah,Qi,QK,Ql,and_self,Qn,Qo,r,Ab c,b]
  ·have r:(a.op=1)=False:=eq_false u;by_cases z:a.op=2
   ·have j:(a.op=2)=True:=eq_true z;clear u z;cases hse:v.se with
    |false=>
     simp only[↓C2,Gt,simprocAttr,Ht,Hl,VW,Bi,Ck,BA,BB,AL,AR,Ql,ne_eq,Ah,Qi,QK,Ql,and_self,Qn,Qz,Qo,r,j,hse,Ab c,b]
    |true=>
     by_cases o:a.key=v.key
     ·have f:(a.key=v.key)=True:=eq_true o;have i:(a.key==v.key)=true:=by rw[o];simp
      clear o;simp only[↓C2,Gt,simprocAttr,Ht,SZ,aCQ,Hl,R0,VW,Bi,Ck,BA,BB,AL,AR,Ql,ne_eq,Ah,Qi,QK,Ql,and_self,Qn,Qz,and_false,Qo,r,j,hse,f,Ab c,b]
     ·have f:(a.key=v.key)=False:=eq_false o;have i:(a.key==v.key)=false:=by simpa using o
      clear o;simp only[↓C2,Gt,simprocAttr,Ht,SZ,aCQ,Hl,R0,VW,Bi,Ck,BA,BB,AL,AR,Ql,ne_eq,Ah,Qi,QK,Ql,and_self,Qn,Qz,and_false,Qo,r,j,hse,f,Ab c,b]
   ·have j:(a.op=2)=False:=eq_false z;clear u z;cases hse:v.se with
    |true=>
     simp only[↓C2,Gt,simprocAttr,Ht,Hl,VW,Bi,Ck,BA,BB,AL,AR,Ql,ne_eq,Ah,Qi,QK,Ql,and_self,Qn,Qz,Qo,r,j,hse,Ab c,b]
    |false=>
     cases b1 with
     |false=>
      simp only[↓C2,Gt,simprocAttr,Ht,Hl,VW,yL,HG,HH,Bi,Ck,BA,BB,AL,AR,Ql,ne_eq,Ah,Qi,QK,Ql,and_self,Qn,Qz,Qo,r,j,hse,Ab c,b,Ab g,d]
     |true=>
      cases q<;>simp only[↓C2,Gt,simprocAttr,Ht,Hl,VW,yL,HG,HH,Bi,Ck,BA,BB,AL,AR,Ql,ne_eq,Ah,Qi,QK,Ql,and_self,Qn,Qz,Qo,r,j,hse,Ab c,b,Ab g,d,Ab k,h]
 ·simp only[↓C2,Gt,simprocAttr,VW,Bi,BA,BB,AL,Ql,ne_eq,Ql,and_self,w,Ab c,b]
def aGr(k:Bs)(nl:Bool):Vw:=⟨false,1,k,true,[],nl,[Cn]⟩
def F23:List D->Option D
 |[.str k]=>some (Hv (aGr k false))
 |_=>none
def aVV:Kq F23 78:=by
 obtain⟨S,j,hl⟩:=Bd (Aa aRt Ad);have a:=hl 80 _ rfl;clear hl;refine AK (S:=S) j (Aj func78:Fn Qd 78 6 aUo [.cell (some 5) 2]) (λds r h=>?_) (λds r h=>?_)
 ·unfold F23 at h;split at h
  ·simp
  ·cases h
 ·unfold F23 at h;split at h
  ·simp only[Qu]at h;subst h;have f:F48 []=some (.agg [.slice false [] (AG [Cn])]):=rfl;unfold aUo;simp only[↓C2,GJ,simprocAttr,B7,E4,QG,QV,Q9,Ab a,f,Ah,Au,Av,Zq,Zh,Q3,QD,QY,List.drop_succ_cons,Be,AT]
   all_goals exact YU
  ·cases h
def aCU(s:Bool×List Mt)(m:Mt):Bool×List Mt:=match (aCV s.2 m).1 with
 |none=>s
 |some l=>(false,l)
open Classical in
def aQq{nl0 nl:Bool}{l:List Tk}{n p:Bs}{rs:List Rl}(hl:l.length<=90000)(g:∀k∈l,LV k.2.2.2)(c:nl=true->rs=[])(i:LV rs)(u:n.length<=1000000)(z:p.length<=1000000):
  F50 [.agg [.slice nl0 [] (AG l)],.agg [.str n,.str p,.slice nl [] (Ar rs)]]=some (.tup [VF nl0 l (H5 l (n,p,nl,rs)).1,.int .i64 (H5 l (n,p,nl,rs)).2]):=by
 have h:(EY (AG l)∧(AG l).length<=90000∧∀k∈C8 (AG l),LV k.2.2.2)∧NE nl (Ar rs)∧LV (Ba (Ar rs))∧n.length<=1000000∧p.length<=1000000:=
  ⟨⟨EA O,by rw[BS];exact hl,by rw[Bx];exact g⟩,LP i.1 c,by rw[AY];exact i,u,z⟩
 show(if _ then _ else _)=_;rw[if_pos h,Bx,AY]
def z5:List D:=[.bool false,.int .i64 0,.str [],.slice true [] [],.slice true [] []]
open Classical in
def aIW{nl:Bool}{l:List Tk}(hl:l.length<=1000000):kG [.agg [.slice nl [] (AG l)]]=some (.slice (decide (l.length=0)) [] (l.map λk=> .str k.1)):=by
 have h:EY (AG l):=EA hl;show(if _ then _ else _)=_;rw[if_pos h,Bx]
theorem bl_irr:∀a:Bs,Op.bytesLess a a=false
 |[]=>rfl
 |x::r=>by simp[Op.bytesLess,bl_irr r]
def Nr:∀{a b:Bs},a≠b->Op.bytesLess a b=!Op.bytesLess b a
 |[],[],h=>absurd rfl h
 |[],y::s,_=>rfl
 |x::r,[],_=>rfl
 |x::r,y::s,h=>by
  simp only[Op.bytesLess];by_cases c:x=y
  ·simp_all [Nr]
  ·grind
def PY:∀{a b c:Bs},Op.bytesLess a b=true->Op.bytesLess b c=true->Op.bytesLess a c=true
 |a,b,[],h1,h2=>by simp[Op.bytesLess]at h2
 |a,[],z::t,h1,h2=>by cases a<;>simp[Op.bytesLess]at h1
 |[],y::s,z::t,h1,h2=>rfl
 |x::r,y::s,z::t,h1,h2=>by
  simp only[Op.bytesLess,Zx,QA,decide_eq_true_eq,beq_iff_eq]at h1 h2 ⊢;rcases h1 with h1|⟨rfl,h1⟩
  ·grind
  ·rcases h2 with h2|⟨rfl,h2⟩
   ·left;exact h2
   ·right;exact⟨rfl,PY h1 h2⟩
def FY(l:List Mt):Prop:=∀i j,i<j->j<l.length->Op.bytesLess (l.getD i m0t).1 (l.getD j m0t).1=true
def OM{a b:Bs}:decide (CE a b<0)=Op.bytesLess a b:=by
 grind [CE]
def aAF{l:List Mt}{m:Mt}(c:∀i,i<l.length->(l.getD i m0t).1≠m.1):∀j,j<=l.length->kR fY m0t l m j=gK l m.1 j
 |0,_=>rfl
 |j+1,hj=>by
  have ih:=aAF c j O;have u:=Nr (c j O);have r:fY m (l.getD j m0t)=Op.bytesLess m.1 (l.getD j m0t).1:=OM;unfold kR gK;rw[r,show Cu l j=l.getD j m0t from rfl,u];cases Op.bytesLess m.1 (l.getD j m0t).1
  ·simp
  ·simpa using ih
theorem SP{l:List Mt}{p:Bs}(h:¬0<=B0 l p):∀i,i<l.length->(l.getD i m0t).1≠p:=by
 have u:=Gg (l.map λm=>decide (m.1=p));have z:decide (0<=A9 (l.map λm=>decide (m.1=p)))=false:=decide_eq_false h;rw[z]at u;intro i hi e;have y:=Zm.1 u.symm (decide ((l.getD i m0t).1=p)) (Qv.2 ⟨l[i],QL hi,by simp[QB,hi]⟩);exact y (decide_eq_true e)
theorem S_{l:List Mt}{m:Mt}(h:FY l):HA l m=aCV l m:=by
 unfold HA aCV;split
 ·rfl
 split
 ·rfl
 rename_i k;split
 ·rfl
 split
 ·rfl
 have g:∀i,i+1<l.length->fY (l.getD (i+1) m0t) (l.getD i m0t)=false:=λi hi=>by
  have u:=h i (i+1) O hi;unfold fY;rw[OM];have j:(l.getD (i+1) m0t).1≠(l.getD i m0t).1:=λe=>by rw[e,bl_irr]at u;cases u
  rw[Nr j,u];rfl
 have hi:=SG fY m0t l m g l.length 1 (Qg _) O;rw[hi,aAF (SP k) l.length (Qg _)];split
 ·simp_all
 ·rfl
def aAG{l:List Mt}{p:Bs}:∀j,gK l p j=0∨Op.bytesLess (l.getD (gK l p j-1) m0t).1 p=true
 |0=> .inl rfl
 |j+1=>by
  unfold gK;split
  ·rename_i h;right;exact h
  ·exact aAG j
def mD{l:List Mt}{p:Bs}:∀j i,gK l p j<=i->i<j->Op.bytesLess (l.getD i m0t).1 p=false
 |0,i,_,h=>O
 |j+1,i,h1,h2=>by
  unfold gK at h1;split at h1
  ·omega
  ·rename_i h;by_cases e:i=j
   ·subst e;exact Bool.eq_false_iff.2 h
   ·exact mD j i h1 O
def Pm{α:Type}{l:List α}{m d:α}{k i:Nat}(g:k<=l.length):(l.take k++m::l.drop k).getD i d=if i<k then l.getD i d else if i=k then m else l.getD (i-1) d:=by
 grind
theorem xD{l:List Mt}{m:Mt}(h:FY l)(c:∀i,i<l.length->(l.getD i m0t).1≠m.1):FY (l.take (gK l m.1 l.length)++m::l.drop (gK l m.1 l.length)):=by
 have g:=aAE l m.1 l.length;have h1:=aAG (l:=l) (p:=m.1) l.length;have t:=mD (l:=l) (p:=m.1) l.length;generalize gK l m.1 l.length=k at g h1 t;have lo:∀i,i<k->Op.bytesLess (l.getD i m0t).1 m.1=true:=λi hi=>by
  rcases h1 with h1|h1
  ·omega
  ·by_cases e:i=k-1
   ·rw[e];exact h1
   ·exact PY (h i (k-1) O O) h1
 have hi:∀i,k<=i->i<l.length->Op.bytesLess m.1 (l.getD i m0t).1=true:=λi y o=>by
  rw[Nr (λe=>c i o e.symm),t i y o];rfl
 intro i j z q;have v:(l.take k++m::l.drop k).length=l.length+1:=by
  grind
 rw[v]at q;rw[Pm g,Pm g];by_cases a1:i<k
 ·rw[if_pos a1];by_cases x:j<k
  ·rw[if_pos x];exact h i j z O
  ·rw[if_neg x];by_cases u:j=k
   ·simp_all
   ·rw[if_neg u];exact h i (j-1) O O
 ·rw[if_neg a1];have x:¬j<k:=by omega
  have u:¬j=k:=O
  rw[if_neg x,if_neg u];by_cases s:i=k
  ·grind
  ·rw[if_neg s];exact h (i-1) (j-1) O O
def jM{s:Bool×List Mt}{m:Mt}(h:FY s.2):FY (aCU s m).2:=by
 unfold aCU aCV;by_cases u:Eb m.1 m.2.1≠0
 ·rw[if_pos u];exact h
 ·rw[if_neg u];by_cases z:0<=B0 s.2 m.1
  ·rw[if_pos z];exact h
  ·grind [L1,xD,SP]
def FW(l:List Tk):Prop:=∀i j,i<j->j<l.length->Op.bytesLess (Bc l i).1 (Bc l j).1=true
def AtT(l:List Tk)(s:Bs)(r:Nat):Prop:=r<=l.length∧(∀i,i<r->Op.bytesLess (Bc l i).1 s=true)∧∀i,r<=i->i<l.length->Op.bytesLess (Bc l i).1 s=false
def AtT.uniq{l:List Tk}{s:Bs}{r q:Nat}(h:AtT l s r)(k:AtT l s q):r=q:=by
 rcases ZH r q with e|e|e
 ·have u:=h.2.2 r (Qg _) (by have:=k.1;omega);rw[k.2.1 r e]at u;cases u
 ·exact e
 ·have u:=k.2.2 q (Qg _) (by have:=h.1;omega);rw[h.2.1 q e]at u;cases u
theorem SA{l:List Tk}(h:FW l){s:Bs}{i j:Nat}(z:i<=j)(q:j<l.length)(hl:Op.bytesLess (Bc l j).1 s=true):Op.bytesLess (Bc l i).1 s=true:=by
 by_cases e:i=j
 ·rw[e];exact hl
 ·exact PY (h i j O q) hl
def jC{l:List Tk}(h:FW l){s:Bs}:∀(f lo hi:Nat),hi-lo<=f->lo<=hi->hi<=l.length->(∀i,i<lo->Op.bytesLess (Bc l i).1 s=true)->(∀i,hi<=i->i<l.length->Op.bytesLess (Bc l i).1 s=false)->AtT l s (bsR l s f lo hi)
 |0,lo,hi,hf,h1,h2,h3,h4=>by
  have:lo=hi:=O
  subst this;exact⟨h2,h3,h4⟩
 |f+1,lo,hi,hf,h1,h2,h3,h4=>by
  unfold bsR;split
  ·rename_i r;have w:(lo+hi) / 2<hi:=by omega
   have x:lo<=(lo+hi) / 2:=O
   split
   ·rename_i y;have z:Op.bytesLess (Bc l ((lo+hi) / 2)).1 s=true:=by rw[←OM];exact decide_eq_true y
    exact jC h f _ hi O O h2 (λi n=>SA h (show i<=(lo+hi) / 2 by omega) O z) h4
   ·rename_i y;have z:Op.bytesLess (Bc l ((lo+hi) / 2)).1 s=false:=by rw[←OM];exact decide_eq_false y
    refine jC h f lo _ O x O h3 (λi m t=>?_);by_cases e:Op.bytesLess (Bc l i).1 s=true
    ·grind [SA]
    ·simpa using e
  ·have:lo=hi:=by omega
   subst this;exact⟨h2,h3,h4⟩
def aCE{l:List Tk}(h:FW l)(s:Bs):AtT l s (IQ l s):=jC h l.length 0 l.length O O (Qg _) (λi hi=>absurd hi (ZN _)) (λi u z=>O)
theorem SV{a b:Bs}:decide (CE a b=0)=decide (a=b):=by
 grind [CE,bl_irr]
def WT{l:List Tk}(h:FW l){j:Nat}(q:j<l.length):IQ l (Bc l j).1=j∧A0 l (Bc l j).1=true:=by
 have e:IQ l (Bc l j).1=j:=(aCE h _).uniq ⟨O,λi hi=>h i j hi q,λi u z=>by
  by_cases e:i=j
  ·rw[e];exact bl_irr _
  ·have y:=h j i O z;have w:(Bc l i).1≠(Bc l j).1:=λe=>by rw[e,bl_irr]at y;cases y
   rw[Nr w,y];rfl⟩
 refine⟨e,?_⟩;unfold A0;rw[e,SV];simp[q]
def eS(k:Tk):Bs×Bs×List Rl:=(k.1,k.2.1,k.2.2.2)
def I6(L M:List Tk):Prop:=L.map eS=M.map eS
def I6.len{L M:List Tk}(h:I6 L M):L.length=M.length:=by have:=congrArg ZM h;simpa using this
def I6.at{L M:List Tk}(h:I6 L M)(j:Nat):(Bc L j).1=(Bc M j).1∧(Bc L j).2.1=(Bc M j).2.1∧(Bc L j).2.2.2=(Bc M j).2.2.2:=by
 have u:(L.map eS)[j]?=(M.map eS)[j]?:=by rw[h]
 rw[Za,Za]at u;unfold Bc;simp only[QB];cases hL:L[j]?<;>cases hM:M[j]?<;>rw[hL,hM]at u<;>simp[eS]at u<;>simp[u]
def I6.sort{L M:List Tk}(h:I6 L M)(g:FW L):FW M:=λi j z q=>by
 rw[←(h.at i).1,←(h.at j).1];exact g i j z (by rw[h.len];exact q)
def I6.mid{L M:List Tk}(h:I6 L M){k r:Tk}(g:eS k=eS r)(j:Nat):I6 (L.take j++k::L.drop j) (M.take j++r::M.drop j):=by
 simp_all [I6]
def qA{l:List Tk}{k:Tk}(h:FW l)(b:A0 l k.1=false):FW (EU l k):=by
 have d:=aCE h k.1;have w:∀i,i<l.length->(Bc l i).1≠k.1:=λi hi e=>by
  have:=(WT h hi).2;rw[e,b]at this;cases this
 unfold EU;generalize IQ l k.1=q at d;obtain⟨p,lo,hi⟩:=d;have n:∀i,q<=i->i<l.length->Op.bytesLess k.1 (Bc l i).1=true:=λi u t=>by
  rw[Nr (λe=>w i t e.symm),hi i u t];rfl
 intro i j z s;have v:(l.take q++k::l.drop q).length=l.length+1:=by
  grind
 rw[v]at s;have a:∀i,Bc (l.take q++k::l.drop q) i=if i<q then Bc l i else if i=q then k else Bc l (i-1):=λi=>Pm p
 rw[a,a];by_cases a1:i<q
 ·rw[if_pos a1];by_cases x:j<q
  ·rw[if_pos x];exact h i j z O
  ·rw[if_neg x];by_cases g:j=q
   ·simp_all
   ·rw[if_neg g];exact h i (j-1) O O
 ·rw[if_neg a1];have x:¬j<q:=by omega
  have g:¬j=q:=O
  rw[if_neg x,if_neg g];by_cases f:i=q
  ·grind
  ·rw[if_neg f];exact h (i-1) (j-1) O O
def Rj(l:List Mt):Prop:=l.length<=1000∧∀m∈l,m.1.length<=1000
def aFx(s:Bs):Bs:=eD 2 s.length++s
def mtB(m:Mt):Bs:=aFx m.1++[UInt8.ofNat (m.2.1 % 256).toNat,if m.2.2 then 1 else 0]
def Fx(l:List Mt):Bs:=l.flatMap mtB
def O6(s:Bs):(aFx s).length=2+s.length:=by simp[aFx,beB_len]
def lX(m:Mt):(mtB m).length=4+m.1.length:=by simp[mtB,O6];omega
def R6{l:List Mt}{j:Nat}(h:j<l.length):Fx (l.take (j+1))=Fx (l.take j)++mtB (Cu l j):=by
 have e:Cu l j=l[j]:=by simp[Cu,Qf h]
 rw[e,Fx,Fx,←List.take_append_getElem h,List.flatMap_append];simp
def Wf{l:List Mt}{j:Nat}(h:j<l.length):Cu l j∈l:=by simp[Cu,Qf h]
def kU{l:List Mt}(h:Rj l):∀j,j<=l.length->(Fx (l.take j)).length<=1004*j
 |0,_=>by simp[Fx]
 |j+1,hj=>by
  have u:=kU h j O;have z:=h.2 _ (Wf (show j<l.length by omega));rw[R6 O,Qj,lX];omega
def OI:=y1 f86 3 [] []
def aL6:=y0 f86 [] [(3,OI)]
def aLl:=y0 f142 [] []
def Ot:=y1 f201 2 [] []
def aKE:=y0 f201 [] [(2,Ot)]
def RX:List D->Option (List D×List Nat)
 |[.int .i64 s,.int .u64 n]=>if 1<=s∧s<=8∧0<=n then some (Ax (eD s.toNat n),[13*s.toNat])else none
 |_=>none
set_option maxHeartbeats 1000000 in
def aF5{S:Gq}{fr:Id}{m0:Gu}{nl0:Bool}{t0:Id}{emp:Bool}{n:Int}{sz:Nat}{Q:Ex->St->Prop}(ja:sz<=8)(z:0<=n)(w:∀i o,fr<:+i->m0 i o=none)(wa:BK m0 5 nl0 t0 emp=true):
  ∀(k:Nat)(y:St)(nl:Bool)(t:Id)(xs:List D) g,k<=sz->xs.length+k<=200000000->(nl=true->xs=[])->y.c=5+13*(sz-k)->Gs 5 fr m0 nl0 t0 y.m y.c nl t->
   y.s 7= .int .i64 (8*(k:Int)-8)->y.s 0= .slice nl t xs->y.s 2= .int .u64 n->
   (∀x nl' t',x.s 0= .slice nl' t' (xs++Ax (eD k n))->(k=0->nl'=nl∧t'=t∧x.m=y.m∧y.c<=x.c)->(0<k->nl'=false∧t'=[13*sz]++fr∧Gd 5 fr m0 nl0 t0 x.m x.c t')->Q (.exit 0) x)->A5 S fr Ot Q y g:=by
 intro k;induction k with
 |zero=>
  intro y nl t xs g _ _ _ _ r h7 q h2 ga;refine Af Ot.eq_1 ?_;have hn:((0:Int)<=8*((0:Nat):Int)-8)=False:=eq_false V;simp only[↓C2,Gy,GI,simprocAttr,h7,hn];exact ga _ nl t (by simp only[↓C2,reduceIte,Qc,q,eD,Ax,Q9,Zf]) (λ_=>⟨rfl,rfl,rfl,Xa⟩) (λh=>absurd h O)
 |succ k ih=>
  intro y nl t xs g hk j e hc r h7 q h2 ga;refine Af Ot.eq_1 ?_;have hn:((0:Int)<=8*((k+1:Nat):Int)-8)=True:=eq_true O;have f:((0:Int)<=8*((k+1:Nat):Int)-8):=O
  have v:min (8*((k+1:Nat):Int)-8).toNat IntKind.u64.bits=8*k:=by
   have:IntKind.u64.bits=64:=rfl;omega
  have hw:IntKind.i64.wrap (8*((k+1:Nat):Int)-8-8)=8*(k:Int)-8:=X4
  simp only[↓C2,Gt,simprocAttr,Qb,Qh,h7,q,h2,hn,v,Th,and_false];refine aB ⟨O,rfl,Gs.grow (r.put (l:=[]) (k:=y.c+2+5) O) w wa⟩ ?_;rw[BM e];simp only[↓C2,Gt,simprocAttr,h7,hw];have p:Gd 5 fr m0 nl0 t0 (GA.app (y.m.put ((y.c+2+5)::fr) 0 [D.tok 6]) (A6 5 ((y.c+2+6)::fr) (.slice nl t xs))) (y.c+2+8+3) ((y.c+2+6)::fr):=
   Gs.app (l:=[]) (r.put (l:=[]) (k:=y.c+2+5) O) O O
  refine ih _ false ((y.c+2+6)::fr) (xs++[.int .u8 ((((n.fdiv (2 ^ (8*k))) % 256).toNat:Nat):Int)]) _ O Xb U Xa p.gs rfl rfl h2 (λx nl' t' u e2 e3=>?_);refine ga x nl' t' ?_ (λh=>absurd h O) (λ_=>?_)
  ·rw[u,Q2];simp only[eD,Ax,QV];rw[HN O];rfl
  ·by_cases sa:k=0
   ·obtain⟨a,b,c,d⟩:=e2 sa;refine⟨a,?_,?_⟩
    ·grind
    ·rw[b,c];exact p.more d
   ·exact e3 O
def aJf:(gQ 5 RX).ok Qd 201:=by
 refine IK (S:=λ_=>none) A2 (Aj func201:Fn Qd 201 23 aKE [.t 6]) aOR (λds m fr d u h w=>?_);obtain⟨nl,t,xs,v,ys,l,rfl,hg,q,z,rfl,rfl⟩:=aOS h;unfold RX at z;split at z
 ·rename_i s n;split at z
  ·rename_i k;obtain⟨o,b,a⟩:=k;simp only[Qu,QU]at z;obtain⟨rfl,rfl⟩:=z;refine⟨U,?_⟩;clear h;have g:((s.toNat:Nat):Int)=s:=QI O;have f:IntKind.i64.wrap (s-1)=s-1:=IntWalk.i64_in _ ⟨O,O⟩;have i:IntKind.i64.wrap (8*(s-1))=8*(s.toNat:Int)-8:=by rw[IntWalk.i64_in _ ⟨O,O⟩];omega
   unfold aKE;simp only[↓C2,Gy,simprocAttr,f,i];refine aF5 (sz:=s.toNat) O a w hg s.toNat _ nl t xs _ O O (λh=>?_) Xa Gs.start rfl rfl rfl (λy nl' x j _ c=>?_)
   ·grind [BK]
   ·obtain⟨rfl,rfl,p⟩:=c O;simp only[↓C2,Gy,GI,simprocAttr,j];exact p.fin w hg
  ·cases z
 ·cases z
def aIE:List D->Option (List D×List Nat)
 |[.str s]=>if s.length<=65535 then some (Ax (eD 2 s.length++s),[17])else none
 |_=>none
set_option maxHeartbeats 1000000 in
def aRQ(c:grownQ.ok Qd 206):(cQ 5 aFv aIE).ok Qd 142:=by
 have j:Gq.ok Qd (Ap [(206,grownQ),(201,gQ 5 RX)]):=Aa c (Aa (aJf) Ad);have a:Ap [(206,grownQ),(201,gQ 5 RX)] 206=some grownQ:=rfl;have b:Ap [(206,grownQ),(201,gQ 5 RX)] 201=some (gQ 5 RX):=rfl;generalize Ap [(206,grownQ),(201,gQ 5 RX)]=S at j a b;refine IK (S:=S) j (Aj func142:Fn Qd 142 22 aLl [.t 4,.t 5]) (λds m m' fr _=>rfl) (λds m fr d u h n=>?_);obtain⟨nl,t,xs,v,ys,l,rfl,x,q,z,rfl,rfl⟩:=aPe h;unfold aIE at z;split at z
 ·rename_i s;split at z
  ·rename_i y;simp only[Qu,QU]at z;obtain⟨rfl,rfl⟩:=z;refine⟨U,?_⟩;clear h;have g:((65535:Int)<(s.length:Int))=False:=eq_false O;have w1:IntKind.i64.wrap (2+(s.length:Int))=2+(s.length:Int):=IntWalk.i64_in _ ⟨O,O⟩;have w:IntKind.u64.wrap (s.length:Int)=(s.length:Int):=R1 O O;have f:RX [.int .i64 2,.int .u64 (s.length:Int)]=some (Ax (eD 2 s.length),[26]):=by
    show(if(1:Int)<=2∧(2:Int)<=8∧0<=(s.length:Int)then some (Ax (eD (2:Int).toNat (s.length:Int)),[13*(2:Int).toNat])else none)=_;rw[if_pos ⟨O,O,O⟩];rfl
   have e:∀m fr,grownQ.ex [.slice nl t xs,.int .i64 (2+(s.length:Int))] m fr=some (.slice false (0::fr) xs,[(0::fr,0,[.tok 6])]):=λm fr=>aAW O x O
   unfold aLl;simp only[↓C2,Gy,GI,simprocAttr,AD a,AD b,e,g,w1,w];have p:Gd 5 fr m true [] (m.put ([0]++9::fr) 0 [.tok 6]) 10 ([0]++9::fr):=
    ⟨⟨[0],9,rfl,O⟩,Yl,λi o hi=>TO i o hi⟩
   refine aJX (.inr ⟨p.tok,U⟩) U q f ?_;have r:Gd 5 fr m true [] (GA.app (m.put (0::9::fr) 0 [.tok 6]) (A6 5 ([26]++13::fr) (.slice false (0::9::fr) xs))) 14 ([26]++13::fr):=
    Gs.app (l:=[26]) (k:=13) p.gs O O
   simp only[↓C2,Gy,simprocAttr,false_and,BL];refine aB ⟨by simp only[Qj,BL,beB_len];omega,?_,.inr ⟨r.tok,U⟩⟩ ?_
   ·cases s<;>rfl
   simp only[↓C2,Gy,simprocAttr];refine⟨by rw[DL,Q2];rfl,?_⟩;exact(Gs.app (c':=18) (l:=[]) (k:=17) r.gs O O).finc n
  ·cases z
 ·cases z
set_option maxRecDepth 20000 in
def aEW(w:World)(f:Option Addr)(n c k:Nat)(cs:List Value)(hl:cs.length=n)(q:∀v∈cs,v.oneCell'=true)(o:n+k<=140737488355328)
  (l:0<n->∃ad,f=some ad∧∀(j:Nat) v,cs[j]?=some v->w.cell? (ad.add j)=some v):
  Calls Qd 206 #[.slice f n c,.int .i64 (k:Int)] w λe s=>e= .returned (.slice (some ⟨w.heap.size,0,none⟩) n (n+k))∧s=(w.alloc (.cells (madeCells #[.int .u8 0] (n+k)) 5)).setRow w.heap.size (cs++(madeCells #[.int .u8 0] (n+k)).toList.drop n).toArray:=by
 have z:IntKind.i64.wrap ((n:Int)+(k:Int))=(n:Int)+(k:Int):=IntWalk.i64_in _ ⟨O,O⟩;have p:∀u:World,(Instr.makeSlice 108 (.int .i64 (n:Int)) (.int .i64 ((n:Int)+(k:Int)))).run Qd u= .ok (.slice (some ⟨u.heap.size,0,none⟩) n (n+k)) (u.alloc (.cells (madeCells #[.int .u8 0] (n+k)) 5)):=λu=>by
  have e1:((n:Int)+(k:Int)).toNat=n+k:=O
  have:=run_make (P:=Qd) u 108 5 Tryz.t5 (.int .u8 0) underlying108 Z Z .i64 .i64 (n:Int) ((n:Int)+(k:Int)) O O (by show((1:Nat):Int)*_<=_;omega) O;simpa[show Tryz.t5.size=1 from rfl,Value.cells,e1]using this
 have i:(Builtin.copy_ #[108,108] 3 #[.slice (some ⟨w.heap.size,0,none⟩) n (n+k),.slice f n c]).run Qd (w.alloc (.cells (madeCells #[.int .u8 0] (n+k)) 5))= .ok (goInt n) ((w.alloc (.cells (madeCells #[.int .u8 0] (n+k)) 5)).setRow w.heap.size (cs++(madeCells #[.int .u8 0] (n+k)).toList.drop n).toArray):=by
  have a:(w.alloc (.cells (madeCells #[.int .u8 0] (n+k)) 5)).heap[w.heap.size]?=some (.cells (madeCells #[.int .u8 0] (n+k)) 5 (0,0)):=heap_alloc_new w _;rcases Nat.eq_zero_or_pos n with h0|h0
  ·have x:cs=[]:=Zd O;subst x;have:=run_copy_none (P:=Qd) (w.alloc (.cells (madeCells #[.int .u8 0] (n+k)) 5)) 108 108 3 5 (some ⟨w.heap.size,0,none⟩) f n (n+k) n c underlying108 Z (by rw[h0];rfl);rw[this,h0];simp only[QG,QY,Array.toArray_toList];rw[setRow_self _ _ _ 5 (0,0) (by rw[h0]at a;exact a)];rfl
  ·obtain⟨ad,rfl,g⟩:=l h0;have:=run_copy_row (P:=Qd) (w.alloc (.cells (madeCells #[.int .u8 0] (n+k)) 5)) 108 108 3 5 w.heap.size 0 n (n+k) ad n c (madeCells #[.int .u8 0] (n+k)) 5 cs underlying108 Z a (by rw[hl];simp) (λj v m=>by rw[World.cell?_alloc_old _ _ _ (Nat.ne_of_lt (World.block_lt_of_cell? _ _ (g j v m)))];exact g j v m) (by simp[madeCells];omega) q;rw[this,hl];simp[]
 go_enter func206,ntmps206
 go_wp2
 go_ret
 exact YX
def UP(w:World)(a b:Array Value)(e:TypeId):(w.alloc (.cells a e)).setRow w.heap.size b=w.alloc (.cells b e):=by
 have h:∀(F:Obj->Obj),(w.heap.push (.cells a e)).modify w.heap.size F=w.heap.push (F (.cells a e)):=by
  grind
 unfold World.setRow World.alloc;simp only[h]
def aRC:grownQ.ok Qd 206:=by
 refine⟨⟨Tryz.f206,func206,rfl,Z⟩,λds m m' fr _=>rfl,?_⟩;intro B w0 w m g fr ds vs r u hi fa hl da y;simp only[grownQ]at y;split at y
 ·rename_i nl t xs k;split at y
  ·rename_i hc;obtain⟨sa,ia,hk⟩:=hc;simp only[Qu,QU]at y;obtain⟨rfl,rfl⟩:=y
   match vs,hl with
   |[v0,v1],_=>
    have pa:=da 0 _ v0 rfl rfl;have ra:=(da 1 _ v1 rfl rfl).int_inv;subst ra;have p:∀d∈xs,d.cells.length=1∧d.calm=true:=by
     intro d s;have:=Zc.1 ia d s;unfold Gc at this;split at this
     ·exact YX
     ·cases this
    obtain⟨sp,c,cs,e0,na,qa,l⟩:∃(sp:Option Addr)(c:Nat)(cs:List Value),v0= .slice sp xs.length c∧cs.length=xs.length∧AU w g (flat xs) cs∧
      (0<xs.length->∃ad,sp=some ad∧∀(j:Nat) v,cs[j]?=some v->w.cell? (ad.add j)=some v):=by
     cases nl with
     |true=>
      rcases pa.slice_inv with ⟨_,rfl,e⟩|⟨h,_⟩
      ·exact⟨none,0,[],e,rfl,AU.nil w g,λh=>Xd⟩
      ·cases h
     |false=>
      obtain⟨ad,n,c,sz,ws,ev,a,za,f,ya,o,na,_⟩:=pa.slice_list;subst a;refine⟨some ad,c,ws,ev,?_,o,λ_=>⟨ad,rfl,na⟩⟩;rw[ya];cases xs with
      |nil=>simp
      |cons x r=>
       have q:=f x (Qp ..);rw[(p x (Qp ..)).1]at q;rw[←q,Nat.mul_one]
    subst e0;have ga:((k.toNat:Nat):Int)=k:=QI sa;have hw:=aEW w sp xs.length c k.toNat cs na qa.2.1 O l;rw[ga]at hw;refine hw.mono ?_;rintro e w' ⟨rfl,rfl⟩;rw[UP];have f:(cs++(madeCells #[Value.int .u8 0] (xs.length+k.toNat)).toList.drop xs.length).toArray.size=(xs.length+k.toNat)*1:=by simp[madeCells,na]
    have cb:∃ti z,Tryz.prog.info? 5=some ti∧ti.size=1∧ti.zero=some z∧z.cells.size=1:=⟨Tryz.t5,.int .u8 0,Z,Z,Z,Z⟩;have ua:=fa (0::fr) (ZK 0 fr);have ka:=hi.newTok ua (e:=5) (n:=xs.length) (c:=xs.length+k.toNat) (sz:=1) (cur:=(cs++(madeCells #[Value.int .u8 0] (xs.length+k.toNat)).toList.drop xs.length).toArray) V cb O Xs f;have b:=GR.newTok (w:=w) (t:=0::fr) (n:=xs.length) (c:=xs.length+k.toNat) (sz:=1) (Obj.cells (cs++(madeCells #[Value.int .u8 0] (xs.length+k.toNat)).toList.drop xs.length).toArray 5) hi.gz ua.2.2 rfl;refine⟨_,_,rfl,ka,b,?_,λi hf a=>CD hf (λh=>a ((ZK 0 fr).trans h)) _ _ _ _ _⟩;refine aH (sz:=1) (cur:=(cs++(madeCells #[Value.int .u8 0] (xs.length+k.toNat)).toList.drop xs.length).toArray) (T:=5) (fz:=(0,0)) (heap_alloc_new w _) rfl O (λd s=>(p d s).1) (qa.ext b) (λj v hv=>?_) Xk (λ_=>Xk) (λd s=>(p d s).2);rw[List.getElem?_toArray,QP (Qy.1 hv).1];exact hv
  ·cases y
 ·cases y
def aI7{d:D}{n:Bool}{t:Id}{xs ys:List D}(h:d= .slice n t xs)(e:xs=ys):d= .slice n t ys:=e▸h
def aGg{S:Gq}(a:S 142=some (cQ 5 aFv aIE)){l:List Mt}{nl:Bool}{Q:Ex->St->Prop}(hl:Rj l)
  (w:∀y n t,y.s 3= .slice n t (Ax (Fx l))->Q (.exit 0) y):
  ∀(f j:Nat)(n:Bool)(t:Id)(y:St) g,l.length=j+f->y.s 3= .slice n t (Ax (Fx (l.take j)))->y.s 8= .slice nl [] (AA l)->y.s 9= .int .i64 (l.length:Int)->y.s 10= .int .i64 (j:Int)->A5 S [] OI Q y g:=by
 intro f;induction f with
 |zero=>
  intro j n t y g e i h8 h9 z;refine Af OI.eq_1 ?_;have:¬((j:Int)<l.length):=O
  simp only[↓C2,Gy,GI,reduceIte,Qe,h9,z,this];rw[Qs O]at i;exact w _ n t i
 |succ f ih=>
  intro j n t y g e i h8 h9 z;refine Af OI.eq_1 ?_;have q:j<l.length:=O
  have r:((j:Int)<l.length):=O
  have x:=nJ (j:=j);have c:=hl.1;have o:=kU hl j O;have d:=hl.2 _ (Wf q);have v:=wJ (j:=j) O;have ja:(AA l)[j]?=some (.agg [.str (Cu l j).1,.int .i64 (Cu l j).2.1,.bool (Cu l j).2.2]):=Ok q;have na:=R6 q;generalize Cu l j=m at ja d na;obtain⟨p,k,b⟩:=m;simp only at d ja;have hF:aIE [.str p]=some (Ax (aFx p),[17]):=if_pos O;obtain⟨ka,fa,u⟩:=y;simp only at i h8 h9 z;cases b with
  |true=>
   simp only[↓C2,GJ,simprocAttr,h8,h9,z,i,r,x,Qm,ja,AD a,Ah,Au,Av,Zq,Zh,Q3,QD];refine aJY (SW _) (by rw[BL];omega) hF ?_;simp only[↓C2,GJ,simprocAttr,aFv,i,and_false,Th,Ah,and_false];refine aB ⟨YC,rfl,.inr ⟨by simp[Bk],U⟩⟩ ?_;simp only[↓C2,Gt,simprocAttr,z,v];refine ih (j+1) false _ _ _ O (aI7 rfl ?_) h8 h9 rfl;rw[na];simp only[mtB,DL,Q2];simp only[Ax,QV,Q9];rw[HN O];rfl
  |false=>
   simp only[↓C2,GJ,simprocAttr,h8,h9,z,i,r,x,Qm,ja,AD a,Ah,Au,Av,Zq,Zh,Q3,QD];refine aJY (SW _) (by rw[BL];omega) hF ?_;simp only[↓C2,GJ,simprocAttr,aFv,i,and_false,Th,Ah,and_false];refine aB ⟨YC,rfl,.inr ⟨by simp[Bk],U⟩⟩ ?_;simp only[↓C2,Gt,simprocAttr,z,v];refine ih (j+1) false _ _ _ O (aI7 rfl ?_) h8 h9 rfl;rw[na];simp only[mtB,DL,Q2];simp only[Ax,QV,Q9];rw[HN O];rfl
def Ph(p:Bool×List Mt):List D:=[.agg [.slice p.1 [] (AA p.2)]]
def qV(x y:Bool×List Mt)(e:Ph x=Ph y):x=y:=by
 grind [Ph,Wd]
def vN:List D->Option D:=FX Ph (λp=>Rj p.2) (λp=> .str (Fx p.2))
def Va{n:Bool}{l:List Mt}(h:Rj l):vN [.agg [.slice n [] (AA l)]]=some (.str (Fx l)):=BO (mk:=Ph) (a:=(n,l)) qV h
def zB:Kq vN 86:=by
 obtain⟨S,j,hl⟩:=Bd (Aa (aRQ aRC) Ad);have a:=hl 142 _ rfl;clear hl;refine CI j (Aj func86:Fn Qd 86 35 aL6 [.t 2]) (λ_=>by simp[Ph]) (λp d=>?_);obtain⟨n,l⟩:=p;have hl:Rj l:=d;unfold aL6 Ph;simp only[↓C2,Gy,He,simprocAttr,AV,Ah,Qi,QK,Qb,Qh,Ql,List.getElem?_cons_zero,and_self];refine aGg a hl (λy m x e=>?_) l.length 0 true [] _ _ O rfl rfl rfl rfl;simp only[↓C2,Gy,He,simprocAttr,e,aG1,Cd,and_self]
def Rv(o:Oc)(nl:Bool)(l:List Mt):Oc:={o with vw:={o.vw with nlm:=nl,ms:=l}}
def Wg(o:Oc)(nl:Bool)(l:List Mt):Oc:={(Rv o nl l).op 1 (AX 4 [] 0) (Fx l)with rep:=Hg .done}
def umO(o:Oc)(nl:Bool)(l:List Mt)(p:Bs):Oc:={((((Rv o nl l).op 1 (AX 4 [] 0) (Fx l)).op 3 ([109,47]++p++[47]) []).op 3 ([100,47]++p++[47]) [])with rep:=Hg .done}
def S58:=Ap [(129,Ac F45),(144,wQ NX),(211,Ac ES),(86,Ac vN),(210,wQ Nu),(146,wQ vS)]
def W58:Wb->Oc->List D->Option WY:=RW S58 aO1 [] 48
def aWf:(wQ W58).ok Qd 148:=CW (Aj func148) (Aa aVQ (Aa Rz (Aa H9 (Aa zB (Aa L6 (Aa gE Ad))))))
def aC7(w:Wb)(o:Oc)(q:Oc)(ol:Option (List Nat))(b:o.nl=true->o.ops=[])(k:Bool)(s:List Mt)(e:Int)(u:F45 [.agg [.slice w.v.nlm [] (AA w.v.ms)],.agg [.str w.a.pa,.int .i64 w.a.n,.bool w.a.fl]]=some (.tup [.agg [.slice k [] (AA s)],.int .i64 e]))(r:e≠0)(j:NX w o [.int .i64 e]=some (.tup [],q,ol)):W58 w o []=some (.tup [],q,ol.map (·++[33])):=by
 refine A3 b ⟨Qa rfl,λh=>Cm j h,λl h=>Cl j h,λi m fr t x f g n0=>?_⟩;have c:=Wt.start x f;unfold aO1;have y:=AI x.1;simp only[Gv,↓C2,Gp,simprocAttr,y,Ae S58 129,u];refine Vh ?_;simp only[↓C2,Gt,Gp,simprocAttr,eq_false r,AC S58 144];refine Aq c.put.put j (λM c1 c2=>?_);simp only[↓C2,Gy,simprocAttr];exact c1.endc x.2.2
def aC6(w:Wb)(o:Oc)(e:Bool)(s:List Mt)(c:F45 [.agg [.slice w.v.nlm [] (AA w.v.ms)],.agg [.str w.a.pa,.int .i64 w.a.n,.bool w.a.fl]]=some (.tup [.agg [.slice e [] (AA s)],.int .i64 0]))(q:eF o)(r:Rj s):W58 w o []=some (.tup [],Wg o e s,some ([11,42])):=by
 refine A3 (λ_=>q.ops) ⟨Qa rfl,λh=>Xc,λl h=>XC,λi m fr t x f g n0=>?_⟩;have hW:=Wt.start x f;unfold aO1;have y:=AI x.1;have hk:=CF 4 0 [] U;have j:=hk;have b:=Va (n:=e) r;have sa:=Dw w (Rv o e s) 1 (AX 4 [] 0) (Fx s) (λ_=>q.ops) Yc;have z:=Is w ((Rv o e s).op 1 (AX 4 [] 0) (Fx s)) (λh=>Xc);simp only[Gv,↓C2,Gp,simprocAttr,y,Ae S58 129,c];refine Vh ?_;simp only[Gv,↓C2,Gp,simprocAttr,y,n0,Ae S58 211,j,Ae S58 86,b,AC S58 210];refine Cg (hW.put.put.cellp (p:=28) (ys:=[.slice e [] (AA s)]) (o':=Rv o e s) (Qa rfl) rfl rfl rfl) sa (λM u k c1 c2=>?_);simp only[↓C2,Gy,He,simprocAttr];refine Vh ?_;simp only[↓C2,Gy,GI,simprocAttr,AC S58 146];refine Aq c1 z (λM2 d d2=>?_);simp only[↓C2,Gy,simprocAttr];exact d.endl (l:=[11,42]) U
def S59:=Ap [(212,Ac uX),(144,wQ NX),(211,Ac ES),(86,Ac vN),(210,wQ Nu),(213,Ac uW),(146,wQ vS)]
def W59:Wb->Oc->List D->Option WY:=RW S59 aO0 [] 53
def aWe:(wQ W59).ok Qd 149:=CW (Aj func149) (Aa aTM (Aa Rz (Aa H9 (Aa zB (Aa L6 (Aa aJL (Aa gE Ad)))))))
def aC5(w:Wb)(o:Oc)(q:Oc)(ol:Option (List Nat))(b:o.nl=true->o.ops=[])(k:Bool)(s:List Mt)(e:Int)(c:uX [.agg [.slice w.v.nlm [] (AA w.v.ms)],.str w.a.pa]=some (.tup [.agg [.slice k [] (AA s)],.int .i64 e]))(r:e≠0)(j:NX w o [.int .i64 e]=some (.tup [],q,ol)):W59 w o []=some (.tup [],q,ol.map (·++[21])):=by
 refine A3 b ⟨Qa rfl,λh=>Cm j h,λl h=>Cl j h,λi m fr t x n g n0=>?_⟩;have f:=Wt.start x n;unfold aO0;have y:=AI x.1;simp only[Gv,↓C2,Gp,simprocAttr,y,Ae S59 212,c];refine Vh ?_;simp only[↓C2,Gt,Gp,simprocAttr,eq_false r,AC S59 144];refine Aq f.put.put j (λM c1 u=>?_);simp only[↓C2,Gy,simprocAttr];exact c1.endc x.2.2
def aPo(w:Wb)(o:Oc)(k:Bool)(l2:List Mt)(c:uX [.agg [.slice w.v.nlm [] (AA w.v.ms)],.str w.a.pa]=some (.tup [.agg [.slice k [] (AA l2)],.int .i64 0]))(q:eF o)(r:Rj l2)(y:w.a.pa.length<=1000000):W59 w o []=some (.tup [],umO o k l2 w.a.pa,some ([11,54])):=by
 refine A3 (λ_=>q.ops) ⟨Qa rfl,λh=>Xc,λl h=>XC,λi m fr t x ca g n0=>?_⟩;have hW:=Wt.start x ca;unfold aO0;have xx:=AI x.1;have hk:=CF 4 0 [] U;have j:=hk;have b:=Va (n:=k) r;have sa:=Dw w (Rv o k l2) 1 (AX 4 [] 0) (Fx l2) (λ_=>q.ops) Yc;have ta:=U0 w.a.pa y;generalize wa:([109,47]++w.a.pa++[47]:Bs)=q1 at ta;generalize e:([100,47]++w.a.pa++[47]:Bs)=q2 at ta;have s:=Dw w ((Rv o k l2).op 1 (AX 4 [] 0) (Fx l2)) 3 q1 [] (λh=>Xc) (by simp[Oc.op,Rv,q.ops]);have f:=Dw w (((Rv o k l2).op 1 (AX 4 [] 0) (Fx l2)).op 3 q1 []) 3 q2 [] (λh=>Xc) (by simp[Oc.op,Rv,q.ops]);have va:=Is w ((((Rv o k l2).op 1 (AX 4 [] 0) (Fx l2)).op 3 q1 []).op 3 q2 []) (λh=>Xc);have y0:((0:Nat):Int)=0:=rfl;have y1:((1:Nat):Int)=1:=rfl;have y2:((2:Nat):Int)=2:=rfl;have w1:IntKind.i64.wrap 1=1:=rfl;have w2:IntKind.i64.wrap 2=2:=rfl;have z1:(0:Int)+1=1:=rfl;have z2:(1:Int)+1=2:=rfl;unfold umO;rw[wa,e];simp only[Gv,↓C2,Gp,simprocAttr,xx,Ae S59 212,c];refine Vh ?_;simp only[Gv,↓C2,Gp,simprocAttr,xx,n0,Ae S59 211,j,Ae S59 86,b,AC S59 210];refine Cg (hW.put.put.cellp (p:=28) (ys:=[.slice k [] (AA l2)]) (o':=Rv o k l2) (Qa rfl) rfl rfl rfl) sa (λM u z c1 c2=>?_);have xx:=AI c1.at_.1;simp only[↓C2,Gy,He,simprocAttr];refine Vh ?_;simp only[↓C2,Gt,Gp,simprocAttr,xx.2.2.2.2.2.2.2.1,Ae S59 213,ta,Qb,Qh];refine Af Ur.eq_1 ?_;simp only[↓C2,Gt,Gp,simprocAttr,QX,Qb,Qh,AC S59 210];refine Aq c1 s (λM2 d d2=>?_);simp only[↓C2,Gy,simprocAttr,w1,z1];refine Af Ur.eq_1 ?_;simp only[↓C2,Gt,Gp,simprocAttr,ZF,Qb,Qh,AC S59 210];refine Aq d f (λM3 e1 e2=>?_);simp only[↓C2,Gy,simprocAttr,w2,z2];refine Af Ur.eq_1 ?_;simp only[↓C2,Gt,Gp,simprocAttr,AC S59 146];refine Aq e1 va (λM4 f1 f2=>?_);simp only[↓C2,Gy,simprocAttr];exact f1.endl (l:=[11,54]) U
def UE:=y1 f137 5 [] []
def UD:=y1 f137 13 [] []
def aLj:=y0 f137 [] [(5,UE),(13,UD)]
def aL3:=y0 f82 [] []
def xT(s:Bs):Bs:=eD 2 (s.length:Int)++s
def BY(l:List Bs):Bs:=l.flatMap xT
def VY(l:List Bs)(s:Bs):BY (l++[s])=BY l++eD 2 (s.length:Int)++s:=by simp[BY,xT]
def O9:∀{l:List Bs},(∀s∈l,s.length<=60000)->(BY l).length<=60002*l.length
 |[],_=>by simp[BY]
 |x::r,h=>by
  have ih:=O9 (l:=r) (λs g=>h s (QF _ g));have q:=h x Qp;have e:BY (x::r)=xT x++BY r:=by simp[BY]
  rw[e];simp only[Qj,xT,beB_len,Qb];omega
def aUW:=Ap [(201,gQ 5 RX)]
def aHW:=RF aUW aLj [.t 2,.t 3] 46
def aTv:Kq aHW 137:=An (Aj func137) (Aa aJf Ad)
def aHV(nl:Bool)(l:List Bs)(hl:l.length<=1024)(w:∀s∈l,s.length<=60000):aHW [.slice nl [] (strsD l)]=some (.tup [.slice false [] (Ax (BY l)),.int .i64 0]):=by
 refine Am (Qa rfl) ?_;unfold aLj;have v:((1024:Int)<(l.length:Int))=False:=eq_false O;simp only[↓C2,Gy,GI,Gp,reduceIte,Qc,Qe,reduceCtorEq,AP,v];refine Bf (n:=l.length) (I:=λj y=>y.s 13= .slice nl [] (strsD l)∧y.s 14= .int .i64 l.length∧y.s 15= .int .i64 (j:Int)∧y.s 0= .slice nl [] (strsD l)∧∃a:Int,y.s 4= .int .i64 a∧0<=a∧a<=60002*(j:Int)) (λj hj ih y g hI=>?_) (λy g hI=>?_) 0 (Qi _) _ _ ⟨rfl,rfl,rfl,rfl,0,rfl,O,O⟩
 ·obtain⟨ka,fa,da⟩:=y;obtain⟨ra,va,qa,h0,a,h4,ua,f⟩:=hI;simp only at ra va qa h0 h4;refine Af UE.eq_1 ?_;have r:((j:Int)<(l.length:Int))=True:=eq_true O;have oa:=nJ (j:=j);have z:IntKind.i64.wrap ((j:Int)+1)=((j+1:Nat):Int):=by rw[GS O O];omega
  have ja:=Df (l:=l) (j:=j) hj;have q:=w l[j] (QL hj);generalize l[j]=x at ja q;have hb:((65535:Int)<(x.length:Int))=False:=eq_false O;have w1:IntKind.i64.wrap (2+(x.length:Int))=2+(x.length:Int):=GS O O;have w2:IntKind.i64.wrap (a+(2+(x.length:Int)))=a+(2+(x.length:Int)):=GS O O;simp only[↓C2,Gt,Gp,reduceIte,Qc,Qe,ra,va,qa,h4,r,oa,Qm,ja,hb,w1,w2,z];exact ih _ _ ⟨ra,va,rfl,h0,_,rfl,O,O⟩
 ·obtain⟨ka,fa,da⟩:=y;obtain⟨ra,va,qa,h0,a,h4,ua,f⟩:=hI;simp only at ra va qa h0 h4;refine Af UE.eq_1 ?_;have p:¬(a<0):=by omega
  simp only[↓C2,Gt,Gp,reduceIte,Qc,Qe,ZI,va,qa,h4,Q7,ua];refine aB (by have e2:((1:Nat):Int)+1=2:=rfl;rw[e2];omega) ?_;simp only[↓C2,Gy,Gp,reduceIte,Qc,Qe,reduceCtorEq,h0,AP,QX,List.replicate_zero];refine Bf (n:=l.length) (I:=λj y=>y.s 30= .slice nl [] (strsD l)∧y.s 31= .int .i64 l.length∧y.s 32= .int .i64 (j:Int)∧∃t,y.s 7= .slice false t (Ax (BY (l.take j)))∧Gd 5 [] (λ_ _=>none) true [] y.m y.c t) (λj hj ih y g hI=>?_) (λy g hI=>?_) 0 (Qi _) _ _ ⟨rfl,rfl,rfl,_,rfl,⟨[],_,rfl,Xa⟩,XP,λi o hi=>absurd ⟨i,U⟩ hi⟩
  ·obtain⟨ka,fa,da⟩:=y;obtain⟨e,d,b,t,h7,hG⟩:=hI;simp only at e d b h7 hG;refine Af UD.eq_1 ?_;have r:((j:Int)<(l.length:Int))=True:=eq_true O;have oa:=nJ (j:=j);have z:IntKind.i64.wrap ((j:Int)+1)=((j+1:Nat):Int):=by rw[GS O O];omega
   have ja:=Df (l:=l) (j:=j) hj;have q:=w l[j] (QL hj);have na:l.take (j+1)=l.take j++[l[j]]:=QS hj;have sa:(BY (l.take j)).length<=60002*j:=by
    have:=O9 (l:=l.take j) (λs hh=>w s (Ze hh));rw[Q5]at this;omega
   generalize l[j]=x at ja q na;have wu:IntKind.u64.wrap (x.length:Int)=(x.length:Int):=by
    unfold IntKind.wrap;simp only;rw[show IntKind.u64.bits=64 from rfl,show IntKind.u64.signed=false from rfl,ZA,if_neg Bool.false_ne_true];omega
   have hF:RX [.int .i64 2,.int .u64 (x.length:Int)]=some (Ax (eD 2 (x.length:Int)),[26]):=by
    show(if 1<=(2:Int)∧(2:Int)<=8∧0<=(x.length:Int)then some (Ax (eD (2:Int).toNat (x.length:Int)),[13*(2:Int).toNat])else none)=_;rw[if_pos ⟨O,O,O⟩];rfl
   have u:=hG.gs;have wa:BK (λ_ _=>none) 5 true [] true=true:=rfl;simp only[↓C2,Gt,Gp,reduceIte,Qc,Qe,e,d,b,h7,r,oa,Qm,ja,wu,AC aUW 201];refine aJX (u.grow (λ_ _ _=>rfl) wa) (λh=>Xc) (by simp[Ax];omega) hF ?_;have hA:=u.app (k:=da+1+3+4) (c':=da+1+3+5) (l:=[26]) (xs:=Ax (BY (l.take j))) O O;simp only[↓C2,Gy,He,Gp,reduceIte,Qc,Qe];refine aB ⟨by simp only[Qj,Ax,QH,beB_len];omega,by cases x<;>rfl,hA.gs.grow (λ_ _ _=>rfl) wa⟩ ?_;have hB:=hA.gs.app (k:=da+1+3+6+2) (c':=da+1+3+6+3) (l:=[]) (xs:=Ax (BY (l.take j))++Ax (eD 2 (x.length:Int))) O O;simp only[↓C2,Gy,Gp,reduceIte,Qc,Qe,b,z];refine ih _ _ ⟨e,d,rfl,_,?_,hB.more Xa⟩;rw[na,VY];show D.slice _ _ _=_;simp[Ax]
  ·obtain⟨ka,fa,da⟩:=y;obtain⟨e,d,b,t,h7,hG⟩:=hI;simp only at e d b h7 hG;refine Af UD.eq_1 ?_;rw[Zr]at h7;simp only[↓C2,Gt,Gp,reduceIte,Qc,Qe,d,b,h7,Q7]
   all_goals exact YT
def aHc:=Ap [(135,Ac vO),(136,Ac aID),(137,Ac aHW)]
def uV:=RF aHc aL3 [.t 2,.t 3] 31
def aJK:Kq uV 82:=An (Aj func82) (Aa aJr (Aa aJl (Aa aTv Ad)))
def oL(n p:Bs)(a:Bool)(rs:List Rl)(x:Bs)(f:Int)(v:vO [.agg [.str n,.str p,.slice a [] (Ar rs)]]=some (.int .i64 0))(j:aID [.slice a [] (Ar rs)]=some (.tup [.str x,.int .i64 f]))(y:p.length<=60000)(i:x.length<=60000):uV [.agg [.str n,.str p,.slice a [] (Ar rs)]]=some (.tup [.str (BY [p,x]),.int .i64 0]):=by
 refine Am (Qa rfl) ?_;unfold aL3;have b:aHW [.slice false [] [.str p,.str x]]=some (.tup [.slice false [] (Ax (BY [p,x])),.int .i64 0]):=aHV false [p,x] U (by
  intro s g;simp only[Qq,Zo,or_false]at g;rcases g with rfl|rfl
  ·exact y
  ·exact i)
 simp only[Gv,↓C2,Gp,reduceIte,Qc,Qe,ZU,Ae aHc 135,v,Ae aHc 136,j,Ae aHc 137,b,Cd]
 all_goals exact YT
def SD(o:Oc)(nl:Bool)(l:List Tk):Oc:={o with vw:={o.vw with nlt:=nl,ks:=l}}
def mkO(o:Oc)(nl:Bool)(l:List Tk)(n r:Bs):Oc:={(SD o nl l).op 1 (AX 3 n 0) r with rep:=Hg .done}
def vU:=Ap [(196,Ac F50),(19,Ac kG),(82,Ac uV),(144,wQ NX),(211,Ac ES),(210,wQ Nu),(146,wQ vS)]
def W60:Wb->Oc->List D->Option WY:=RW vU aGL [] 72
def aWd:(wQ W60).ok Qd 150:=CW (Aj func150) (Aa aVP (Aa aSc (Aa aJK (Aa Rz (Aa H9 (Aa L6 (Aa gE Ad)))))))
def aC4(w:Wb)(o:Oc)(q:Oc)(ol:Option (List Nat))(b:o.nl=true->o.ops=[])(k:Bool)(s:List Tk)(e:Int)(p:F50 [.agg [.slice w.v.nlt [] (AG w.v.ks)],.agg [.str w.a.ot,.str w.a.tk,.slice w.a.nlr [] (Ar w.a.rs)]]=some (.tup [.agg [.slice k [] (AG s)],.int .i64 e]))(r:e≠0)(j:NX w o [.int .i64 e]=some (.tup [],q,ol)):W60 w o []=some (.tup [],q,ol.map (·++[47])):=by
 refine A3 b ⟨Qa rfl,λh=>Cm j h,λl h=>Cl j h,λi m fr t x n g n0=>?_⟩;have c:=Wt.start x n;unfold aGL;have y:=AI x.1;simp only[Gv,↓C2,Gp,simprocAttr,y];refine Vh ?_;simp only[Gv,↓C2,Gp,simprocAttr,y,n0,Ae vU 196,p];refine Vh ?_;simp only[↓C2,Gt,Gp,simprocAttr,eq_false r,AC vU 144];refine Aq c.put.put.put.put j (λM c1 u=>?_);simp only[↓C2,Gy,simprocAttr];exact c1.endc x.2.2
def aC3(w:Wb)(o:Oc)(q:Oc)(ol:Option (List Nat))(b:o.nl=true->o.ops=[])(e:Bool)(s:List Tk)(p:F50 [.agg [.slice w.v.nlt [] (AG w.v.ks)],.agg [.str w.a.ot,.str w.a.tk,.slice w.a.nlr [] (Ar w.a.rs)]]=some (.tup [.agg [.slice e [] (AG s)],.int .i64 0]))(nb:Bool)(ns:List D)(f:kG [.agg [.slice w.v.nlt [] (AG w.v.ks)]]=some (.slice nb [] ns))(k:(24:Int)<=(ns.length:Int))(j:NX w o [.int .i64 24]=some (.tup [],q,ol)):W60 w o []=some (.tup [],q,ol.map (·++[48])):=by
 refine A3 b ⟨Qa rfl,λh=>Cm j h,λl h=>Cl j h,λi m fr t x n g n0=>?_⟩;have c:=Wt.start x n;unfold aGL;have y:=AI x.1;simp only[Gv,↓C2,Gp,simprocAttr,y];refine Vh ?_;simp only[Gv,↓C2,Gp,simprocAttr,y,n0,Ae vU 196,p];refine Vh ?_;simp only[Gv,↓C2,Gp,simprocAttr,y,n0,Ae vU 19,f,eq_true k,AC vU 144];refine Aq c.put.put.put.put j (λM c1 u=>?_);simp only[↓C2,Gy,simprocAttr];exact c1.endc x.2.2
def aPn(w:Wb)(o:Oc)(e:Bool)(s:List Tk)(fa:F50 [.agg [.slice w.v.nlt [] (AG w.v.ks)],.agg [.str w.a.ot,.str w.a.tk,.slice w.a.nlr [] (Ar w.a.rs)]]=some (.tup [.agg [.slice e [] (AG s)],.int .i64 0]))(nb:Bool)(ns:List D)(f:kG [.agg [.slice w.v.nlt [] (AG w.v.ks)]]=some (.slice nb [] ns))(q:eF o)(k:¬(24:Int)<=(ns.length:Int))(r:Bs)(e3:Int)(g:uV [.agg [.str w.a.ot,.str w.a.tk,.slice w.a.nlr [] (Ar w.a.rs)]]=some (.tup [.str r,.int .i64 e3]))(y:w.a.ot.length<=1000000):W60 w o []=some (.tup [],mkO o e s w.a.ot r,some ([11,67])):=by
 refine A3 (λ_=>q.ops) ⟨Qa rfl,λh=>Xc,λl h=>XC,λi m fr t x n z n0=>?_⟩;have b:=Wt.start x n;unfold aGL;have j:=CF 3 0 w.a.ot y;have sa:=Dw w (SD o e s) 1 (AX 3 w.a.ot 0) r (λ_=>q.ops) Yc;have va:=Is w ((SD o e s).op 1 (AX 3 w.a.ot 0) r) (λh=>Xc);have c:=AI x.1;simp only[Gv,↓C2,Gp,simprocAttr,c];refine Vh ?_;simp only[Gv,↓C2,Gp,simprocAttr,c,n0,Ae vU 196,fa];refine Vh ?_;simp only[Gv,↓C2,Gp,simprocAttr,c,n0,Ae vU 19,f,eq_false k,Ae vU 82,g,Ae vU 211,j,AC vU 210];refine Aq (b.put.put.put.put.cellp (p:=29) (ys:=[.slice e [] (AG s)]) (o':=SD o e s) (Qa rfl) rfl rfl rfl) sa (λM c1 u=>?_);simp only[↓C2,Gy,GI,simprocAttr,AC vU 146];refine Aq c1 va (λM2 d d2=>?_);simp only[↓C2,Gy,simprocAttr];exact d.endl (l:=[11,67]) U
def aKm:=y0 f238 [] []
def aKB:=y0 Tryz.f166 [] []
def aLg:=y0 f271 [] []
def iQ:=y1 f152 6 [] []
def aGJ:=y0 f152 [] [(6,iQ)]
def gL:∀(l:Bs)(c:UInt8),Lib.indexByte l c=-1∨(0<=Lib.indexByte l c∧Lib.indexByte l c<(l.length:Int))
 |[],_=> .inl rfl
 |b::l,c=>by
  have ih:=gL l c;simp only[Lib.indexByte,beq_iff_eq,Qb];split
  ·omega
  ·omega
def BD(s:Bs)(c:UInt8):Bs×Bs×Bool:=if Lib.indexByte s c<0 then(s,[],false)else(s.take (Lib.indexByte s c).toNat,s.drop ((Lib.indexByte s c).toNat+1),true)
def B4(s z:Bs):Bs×Bool:=if Ci s z=false then([],false)else if(BD (CO s z) 47).2.2=true then((BD (CO s z) 47).1++[47],true)else(CO s z,true)
def aVj{s:Bs}{c:UInt8}:IX [.str s,.str [c]]=some (.int .i64 (Lib.indexByte s c)):=rfl
def aPu:=Ap [(237,Ac IX)]
def aPT:=RF aPu aKm [.t 4,.t 5,.t 6] 23
def aSY:Kq aPT 238:=An (Aj func238) (Aa aS2 Ad)
def aHn(s:Bs)(c:UInt8)(hl:s.length<=1000000):aPT [.str s,.str [c]]=some (.tup [.str (BD s c).1,.str (BD s c).2.1,.bool (BD s c).2.2]):=by
 refine Am (Qa rfl) ?_;unfold aKm;have a:=aVj (s:=s) (c:=c);have o:=gL s c;unfold BD;generalize Lib.indexByte s c=q at *;by_cases j:q<0
 ·have b:((0:Int)<=q)=False:=eq_false O;rw[if_pos j];simp only[↓C2,Gt,Gp,simprocAttr,Ae aPu 237,a,b]
  all_goals exact YT
 ·have b:(0:Int)<=q:=by omega
  have w:(q<=(s.length:Int))=True:=eq_true O;have f:(q+1<=(s.length:Int))=True:=eq_true O;have n:(0:Int)<=q+1:=O
  have m:(q+1).toNat=q.toNat+1:=O
  have i:q.toNat<=s.length:=O
  have u:q.toNat+1<=s.length:=O
  have v:IntKind.i64.wrap (q+1)=q+1:=GS O O;have y1:((1:Nat):Int)=1:=rfl;have t:Zp (s.length-(q.toNat+1)) (s.drop (q.toNat+1))=s.drop (q.toNat+1):=Qs XQ;rw[if_neg j];simp only[↓C2,Gt,Gp,simprocAttr,Ae aPu 237,a,b,w,f,n,m,v,y1,t,QY,Qb,Qh];refine aB (λp y=>Xr) ?_;simp only[↓C2,Gt,Gp,simprocAttr]
  all_goals exact YT
def aUN:=Ap [(238,Ac aPT)]
def aHy:=RF aUN aKB [.t 4,.t 5,.t 6] 13
def aJx:Kq aHy 166:=An (Aj func166) (Aa aSY Ad)
def oC(s:Bs)(c:UInt8)(hl:s.length<=1000000):aHy [.str s,.str [c]]=some (.tup [.str (BD s c).1,.str (BD s c).2.1,.bool (BD s c).2.2]):=by
 refine Am (Qa rfl) ?_;unfold aKB;have a:=aHn s c hl;simp only[↓C2,Gt,Gp,simprocAttr,Ae aUN 238,a]
 all_goals exact YT
def uS:=Ap [(109,Ac vF),(166,Ac aHy)]
def aVf:=RF uS aLg [.t 4,.t 5] 29
def aTt:Kq aVf 271:=An (Aj func271) (Aa aJe (Aa aJx Ad))
def aHT(s z:Bs)(hl:s.length<=1000000)(i:(CO s z).length<=s.length):aVf [.str s,.str z]=some (.tup [.str (B4 s z).1,.bool (B4 s z).2]):=by
 refine Am (Qa rfl) ?_;unfold aLg;have c:vF [.str s,.str z]=some (.tup [.str (CO s z),.bool (Ci s z)]):=rfl;have d:=oC (CO s z) 47 O;have na:(BD (CO s z) 47).1.length<=(CO s z).length:=by
  grind [BD]
 unfold B4;generalize BD (CO s z) 47=q at *;generalize CO s z=r at *;obtain⟨g,k,o⟩:=q;simp only at na d ⊢;cases hb:Ci s z with
 |false=>
  rw[hb]at c;simp only[↓C2,Gt,Gp,simprocAttr,Ae uS 109,c]
  all_goals exact YT
 |true=>
  rw[hb]at c;have x:=Ir (a:=g) (b:=[47]) Yy;cases o with
  |false=>
   simp only[↓C2,Gt,Gp,simprocAttr,Ae uS 109,c,Ae uS 166,d]
   all_goals exact YT
  |true=>
   have m:(g.length+1<=9223372036854775807)=True:=eq_true O;simp only[↓C2,Gt,Gp,simprocAttr,Ae uS 109,c,Ae uS 166,d,x]
   all_goals exact YT
def Uw:=y1 f312 2 [] []
def aKD:=y0 f312 [] [(2,Uw)]
def aLi:=y0 f269 [] []
def rV{l:List Bs}{n:Bs}{j:Nat}(t:j<l.length)(q:n=l[j])(g:∀i (h:i<j),n≠l[i]'(by omega)):A9 (l.map λx=>decide (n=x))=j:=by
 unfold A9;have:(l.map λx=>decide (n=x)).findIdx? id=some j:=by
  rw[List.findIdx?_eq_some_iff_getElem];refine⟨XJ,by simp[q],λi hi=>?_⟩;have:=g i hi;simpa using this
 rw[this]
def rU{l:List Bs}{n:Bs}(g:∀i (h:i<l.length),n≠l[i]):A9 (l.map λx=>decide (n=x))=-1:=by
 unfold A9;have:(l.map λx=>decide (n=x)).findIdx? id=none:=by
  rw[List.findIdx?_eq_none_iff];intro b o;obtain⟨x,q,rfl⟩:=Qv.1 o;obtain⟨i,hi,rfl⟩:=QJ q;simpa using g i hi
 rw[this]
def FN(l:List Bs)(n:Bs):Bool:=l.any λx=>decide (n=x)
def WN(l:List Bs)(n:Bs):decide (0<=A9 (l.map λx=>decide (n=x)))=FN l n:=by
 rw[Gg,List.any_map];rfl
def aWH:=Ap []
def aP0:=RF aWH aKD [.t 4] 19
def aTa:Kq aP0 312:=An (Aj func312) Ad
def aHz{nl:Bool}{l:List Bs}(n:Bs)(hl:l.length<=100000):aP0 [.slice nl [] (strsD l),.str n]=some (.int .i64 (A9 (l.map λx=>decide (n=x)))):=by
 refine Am (Qa rfl) ?_;unfold aKD;simp only[↓C2,Gy,simprocAttr,AP];refine Bf (n:=l.length) (I:=λj y=>y.s 0= .slice nl [] (strsD l)∧y.s 1= .str n∧y.s 7= .int .i64 l.length∧y.s 8= .int .i64 (j:Int)∧∀i (h:i<j) (z:i<l.length),n≠l[i]) (λj t ih y g m=>?_) (λy g m=>?_) 0 (Qi _) _ _ ⟨rfl,rfl,rfl,rfl,λi h=>absurd h (ZN _)⟩
 ·obtain⟨a,p,c⟩:=y;obtain⟨f,u,h7,k,v⟩:=m;simp only at f u h7 k;refine Af Uw.eq_1 ?_;have r:((j:Int)<l.length):=by omega
  have w:=nJ (j:=j);have b:=wJ (j:=j) O;have d:=Df (l:=l) (j:=j) t;by_cases q:n=l[j]
  ·have e:=rV t q (λi h=>v i h O);have o:(n=l[j])=True:=eq_true q;simp only[↓C2,Gt,Gp,simprocAttr,f,u,h7,k,r,w,Qm,d,o];rw[e]
   all_goals exact YT
  ·have o:(n=l[j])=False:=eq_false q;simp only[↓C2,Gt,Gp,simprocAttr,f,u,h7,k,r,w,Qm,d,o,b];refine ih _ _ ⟨f,u,h7,rfl,λi h z=>?_⟩;rcases Nat.lt_or_eq_of_le (Nat.le_of_lt_succ h)with h|rfl
   ·exact v i h z
   ·exact q
 ·obtain⟨f,u,h7,k,v⟩:=m;refine Af Uw.eq_1 ?_;have e:=rU (λi h=>v i h h);simp only[↓C2,Gt,Gp,simprocAttr,h7,k,Q7];rw[e]
  all_goals exact YT
def aUV:=Ap [(312,Ac aP0)]
def aVg:=RF aUV aLi [.t 4] 9
def aTu:Kq aVg 269:=An (Aj func269) (Aa aTa Ad)
def aHU{nl:Bool}{l:List Bs}(n:Bs)(hl:l.length<=100000):aVg [.slice nl [] (strsD l),.str n]=some (.bool (FN l n)):=by
 refine Am (Qa rfl) ?_;unfold aLi;have a:=aHz (nl:=nl) n hl;have e:=WN l n;generalize A9 (l.map λx=>decide (n=x))=i at *;simp only[↓C2,Gt,Gp,simprocAttr,Ae aUV 312,a];rw[←e]
 all_goals exact YT
def BP(l:List Bs):List Bs:=l.filterMap λs=>if(Dj s).2=0∧(Dj s).1.1=1 then some (Dj s).1.2.1 else none
def V1(l:List Bs)(s:Bs):BP (l++[s])=BP l++if(Dj s).2=0∧(Dj s).1.1=1 then [(Dj s).1.2.1]else []:=by
 grind [BP]
def Gx(e:Nat)(fr:Id)(m:Gu)(c:Nat)(nl:Bool)(t:Id):Prop:=(nl=true∧t=[])∨(nl=false∧∃k,t=k::fr∧k<c∧m t 0=some (.tok (e+1)))
def Gx.more{e:Nat}{fr:Id}{m:Gu}{c c':Nat}{nl:Bool}{t:Id}(h:Gx e fr m c nl t)(y:c<=c'):Gx e fr m c' nl t:=by
 rcases h with h|⟨u,k,z,i,o⟩
 ·exact .inl h
 ·exact .inr ⟨u,k,z,O,o⟩
def Gx.put{e:Nat}{fr:Id}{m:Gu}{c:Nat}{nl:Bool}{t:Id}{k o:Nat}{ds:List D}(h:Gx e fr m c nl t)(g:c<=k:=by omega):Gx e fr (m.put (k::fr) o ds) c nl t:=by
 rcases h with h|⟨u,q,z,i,r⟩
 ·exact .inl h
 ·refine .inr ⟨u,q,z,i,?_⟩;rw[aA]
  ·exact r
  ·rw[z];simp;omega
def Gx.grow{e:Nat}{fr:Id}{m:Gu}{c:Nat}{nl:Bool}{t:Id}{xs:List D}(h:Gx e fr m c nl t):Iw m e (.slice nl t xs):=by
 rcases h with h|⟨u,q,z,i,o⟩
 ·exact .inl h.1
 ·exact .inr ⟨o,by rw[z];simp⟩
def Gx.app{e:Nat}{fr:Id}{m:Gu}{c' k:Nat}{nl:Bool}{t:Id}{xs:List D}(g:k<c'):Gx e fr (GA.app m (A6 e (k::fr) (.slice nl t xs))) c' false (k::fr):=
 .inr ⟨rfl,k,rfl,g,by rw[CP,if_pos ⟨rfl,rfl⟩]⟩
def Wt.own{i fr t0 t:Id}{m0 m:Gu}{nl0:Bool}{w:Wb}{o:Oc}{e c k:Nat}{nl:Bool}{s:Id}{xs:List D}(h:Wt i fr m0 nl0 t0 m w o t)(n:∀j x,fr<:+j->m0 j x=none)(g:∀k,(i=k::fr)=False)(r:Gx e fr m c nl s):Wt i fr m0 nl0 t0 (GA.app m (A6 e (k::fr) (.slice nl s xs))) w o t:=by
 rcases r with ⟨rfl,_⟩|⟨rfl,q,rfl,_,_⟩
 ·exact h.put n g
 ·exact(h.put n g).put n g
def S62(G:List D->Option D):Gq:=Ap [(213,Ac uW),(215,Ac kA),(216,wQ UY),(22,Ac R38),(217,Ac G),(145,wQ cY)]
def W62(G:List D->Option D):Wb->Oc->List D->Option WY:=RW (S62 G) aGJ [] 72
def aWb{G:List D->Option D}(h:Kq G 217):(wQ (W62 G)).ok Qd 152:=CW (Aj func152:Fn Qd 152 72 aGJ []) (Aa aJL (Aa aTL (Aa aAr (Aa aWk (Aa h (Aa gF Ad))))))
def aC1(G:List D->Option D)(w:Wb)(o:Oc)(q:Oc)(ol:Option (List Nat))(s:o.nl=true->o.ops=[])(z:Bool)(f:List Bs)(y:w.a.pa.length<=1000000)(r:kA [.agg (G6 w.k),.str ([109,47]++w.a.pa++[47])]=some (.tup [.slice z [] (strsD f),.bool false]))(p:UY w o [.str ([109,47]++w.a.pa++[47]),.bool true]=some (.tup [],q,ol)):W62 G w o []=some (.tup [],q,ol.map (·++[24])):=by
 refine A3 s ⟨Qa rfl,λh=>Cm p h,λl h=>Cl p h,λi m fr t x n g n0=>?_⟩;have v:S62 G 213=some (Ac uW):=rfl;have e:S62 G 215=some (Ac kA):=rfl;have b:S62 G 216=some (wQ UY):=rfl;have hW:=Wt.start x n;unfold aGJ;have c:=AI x.1;have ta:=U0 w.a.pa y;generalize j:([109,47]++w.a.pa++[47]:Bs)=d at *;generalize ([100,47]++w.a.pa++[47]:Bs)=q2 at *;unfold G6 at r;have y1:((1:Nat):Int)=1:=rfl;have y2:((2:Nat):Int)=2:=rfl;have cb:(0:Int)<=0:=ZW _;simp only[Gv,↓C2,Gp,simprocAttr,c,cb,QX,Qb,Qh,Ab v,ta,Ab e,r,AD b];refine Aq hW p (λM c1 u=>?_);simp only[↓C2,Gy,simprocAttr];exact c1.endc x.2.2
def aPl(G:List D->Option D)(w:Wb)(o:Oc)(o2:Oc)(ho:o.nl=true->o.ops=[])(ab:Bool)(f:List Bs)(hp:w.a.pa.length<=1000000)(r:kA [.agg (G6 w.k),.str ([109,47]++w.a.pa++[47])]=some (.tup [.slice ab [] (strsD f),.bool true]))(hl:f.length<=2000)(hs:∀s∈f,s.length<=1000000)(nn:Bool)(d:List Bs)(fb:∀b,(b=true->BP f=[])->G [.str w.a.pa,.slice b [] (strsD (BP f))]=some (.slice nn [] (strsD d)))(ua:d.length<=2000)(ib:nn=true->d=[])(qa:cY w o [.agg (GW (.names nn (d.take 64)))]=some (.tup [],o2,none)):W62 G w o []=some (.tup [],o2,none):=by
 refine A3 ho ⟨Qa rfl,λh=>((EB qa).2.1 rfl),λl h=>Xc,λi m fr t ha ca ia n0=>?_⟩;have ba:S62 G 213=some (Ac uW):=rfl;have ma:S62 G 215=some (Ac kA):=rfl;have db:S62 G 22=some (Ac R38):=rfl;have eb:S62 G 217=some (Ac G):=rfl;have xa:S62 G 145=some (wQ cY):=rfl;have hW:=Wt.start ha ca;unfold aGJ;have xx:=AI ha.1;have ta:=U0 w.a.pa hp;generalize wa:([109,47]++w.a.pa++[47]:Bs)=q1 at *;generalize ([100,47]++w.a.pa++[47]:Bs)=q2 at *;unfold G6 at r;have y1:((1:Nat):Int)=1:=rfl;have y2:((2:Nat):Int)=2:=rfl;have cb:(0:Int)<=0:=ZW _;simp only[Gv,↓C2,Gp,simprocAttr,xx,cb,QX,Qb,Qh,Ab ba,ta,Ab ma,r,AP];refine Bf (n:=f.length) (I:=λj st=>st.s 33= .slice ab [] (strsD f)∧st.s 34= .int .i64 f.length∧st.s 35= .int .i64 (j:Int)∧st.s 0= .ptr i 0∧∃nl' t',st.s 5= .slice nl' t' (strsD (BP (f.take j)))∧(nl'=true->BP (f.take j)=[])∧Gx 9 fr st.m st.c nl' t'∧Wt i fr m o.nl t st.m w o t) (λj hj ih st g hI=>?_) (λst g hI=>?_) 0 (Qi _) _ _ ⟨rfl,rfl,rfl,rfl,true,[],rfl,λ_=>rfl,.inl ⟨rfl,rfl⟩,hW⟩
 ·obtain⟨ka,fa,da⟩:=st;obtain⟨z,ra,la,y,nl',t',h5,va,hG,hw⟩:=hI;simp only at z ra la y h5 hG hw;refine Af iQ.eq_1 ?_;have ea:((j:Int)<(f.length:Int))=True:=eq_true O;have oa:=nJ (j:=j);have aa:IntKind.i64.wrap ((j:Int)+1)=((j+1:Nat):Int):=by rw[GS O O];omega
  have ja:=Df (l:=f) (j:=j) hj;have u:=aPP f[j] (hs _ (QL hj));have na:f.take (j+1)=f.take j++[f[j]]:=QS hj;have sa:(BP (f.take j)).length<=j:=by
   have:=Q8 (λs=>if(Dj s).2=0∧(Dj s).1.1=1 then some (Dj s).1.2.1 else none) (f.take j);rw[Q5]at this;unfold BP;omega
  have ga:=V1 (f.take j) f[j];rw[←na]at ga;generalize f[j]=x at *;generalize Dj x=px at *;obtain⟨⟨kk,nm,vv⟩,e⟩:=px;simp only at ga u;unfold kyD at u;by_cases he:e=0
  ·subst he;by_cases hk:kk=1
   ·subst hk;simp only[and_self,if_true]at ga;simp only[Gv,↓C2,Gp,simprocAttr,z,ra,la,h5,ea,oa,Qm,ja,AP,Ab db,u];have gb:=((hG.put (k:=da+1+3+5) (o:=0) (ds:=[.int .u8 0,.str [],.int .i64 0]) O).put (k:=da+1+3+5) (o:=0) (ds:=[.int .u8 1,.str nm,.int .i64 vv]) O).put (k:=da+1+3+8+7+3) (o:=0) (ds:=[.tok 10]) O;have kb:=((hw.put (q:=da+1+3+5) (p:=0) (ys:=[.int .u8 0,.str [],.int .i64 0])).put (q:=da+1+3+5) (p:=0) (ys:=[.int .u8 1,.str nm,.int .i64 vv])).put (q:=da+1+3+8+7+3) (p:=0) (ys:=[.tok 10]);refine aB ⟨O,rfl,gb.grow⟩ ?_;rw[BM (λh=>by rw[va h];rfl),MR];have bb:=kb.own (e:=9) (k:=da+1+3+8+7+4) (xs:=strsD (BP (f.take j))) ca n0 gb;have hb:=Gx.app (e:=9) (fr:=fr) (m:=((fa.put ((da+1+3+5)::fr) 0 [D.int .u8 0,.str [],.int .i64 0]).put ((da+1+3+5)::fr) 0 [.int .u8 1,.str nm,.int .i64 vv]).put ((da+1+3+8+7+3)::fr) 0 [.tok 10]) (k:=da+1+3+8+7+4) (c':=da+1+3+8+7+5) (nl:=nl') (t:=t') (xs:=strsD (BP (f.take j))) O;simp only[↓C2,Gy,simprocAttr,la,aa];exact ih _ _ ⟨z,ra,rfl,y,false,(da+1+3+8+7+4)::fr,(by rw[ga];show D.slice _ _ _=_;simp[strsD]),(λh=>Xc),hb.more (c':=da+1+3+8+7+6+2) O,bb⟩
   ·rw[if_neg (λh=>hk h.2),Zf]at ga;simp only[Gv,↓C2,Gp,simprocAttr,z,ra,la,ea,oa,Qm,ja,Ab db,u,eq_false hk,aa];exact ih _ _ ⟨z,ra,rfl,y,nl',t',by rw[ga];exact h5,by rw[ga];exact va,hG.put.put.more Xa,hw.put.put⟩
  ·rw[if_neg (λh=>he h.1),Zf]at ga;simp only[Gv,↓C2,Gp,simprocAttr,z,ra,la,ea,oa,Qm,ja,Ab db,u,eq_false he,aa];exact ih _ _ ⟨z,ra,rfl,y,nl',t',by rw[ga];exact h5,by rw[ga];exact va,hG.put.put.more Xa,hw.put.put⟩
 ·obtain⟨ka,fa,da⟩:=st;obtain⟨z,ra,la,y,nl',t',h5,va,hG,hw⟩:=hI;simp only at z ra la y h5 hG hw;refine Af iQ.eq_1 ?_;rw[Zr]at h5 va;have za:=fb nl' va;have ya:Zp 64 (strsD d)=strsD (d.take 64):=(ZR ..).symm;have xx:=AI hw.at_.1;have hq:∃q:Int,min (d.length:Int) 64=q∧0<=q∧q<=(d.length:Int)∧q.toNat<=d.length∧Zp q.toNat (strsD d)=strsD (d.take 64):=by
   refine⟨_,rfl,O,O,O,?_⟩;rw[←ya];by_cases c:d.length<=64
   ·rw[Qs (by rw[AP];omega),Qs (by rw[AP];omega)]
   ·grind
  obtain⟨q,v,q0,jb,lb,q3⟩:=hq;have hd:aF (strsD d) 1=1:=by cases d<;>rfl
  simp only[GW]at qa;simp only[↓C2,Gt,Gp,simprocAttr,y,ra,la,h5,Q7,xx.2.2.2.2.2.2.2.1,Ab eb,za,AP,v,q0,jb,hd,QY,q3,AD xa];refine Aq hw qa (λM c1 c2=>?_);simp only[↓C2,Gy,simprocAttr];exact c1.end0 ha.2.2
def Ds(o:Oc)(l:List Bs):Oc:={o with nl:=o.nl&&l.isEmpty,ops:=o.ops++l.map λn=>(2,AX 3 n 0,[])}
def aA0{o:Oc}{l:List Bs}{n:Bs}:(Ds o l).op 2 (AX 3 n 0) []=Ds o (l++[n]):=by
 simp[Ds,Oc.op]
def rN{o:Oc}:Ds o []=o:=by simp[Ds]
def qL(o:Oc)(nl:Bool)(k:List Tk)(gnl:Bool)(gone:List Bs):Oc:={Ds (SD o nl k) gone with rep:=Hg (.names gnl gone)}
def S61(G:List D->Option D):Gq:=Ap [(214,Ac G),(144,wQ NX),(211,Ac ES),(210,wQ Nu),(145,wQ cY)]
def W61(G:List D->Option D):Wb->Oc->List D->Option WY:=RW (S61 G) aGK [] 48
def aWc{G:List D->Option D}(h:Kq G 214):(wQ (W61 G)).ok Qd 151:=CW (Aj func151:Fn Qd 151 48 aGK []) (Aa h (Aa Rz (Aa H9 (Aa L6 (Aa gF Ad)))))
def aC2(G:List D->Option D)(w:Wb)(o:Oc)(q:Oc)(ol:Option (List Nat))(s:o.nl=true->o.ops=[])(k:Bool)(p:List Tk)(gnl:Bool)(gone:List Bs)(e:Int)(d:G [.agg [.slice w.v.nlt [] (AG w.v.ks)],.str w.a.ot]=some (.tup [.agg [.slice k [] (AG p)],.slice gnl [] (strsD gone),.int .i64 e]))(r:e≠0)(j:NX w o [.int .i64 e]=some (.tup [],q,ol)):W61 G w o []=some (.tup [],q,ol.map (·++[23])):=by
 refine A3 s ⟨Qa rfl,λh=>Cm j h,λl h=>Cl j h,λi m fr t x n g n0=>?_⟩;have b:S61 G 214=some (Ac G):=rfl;have c:S61 G 144=some (wQ NX):=rfl;have f:=Wt.start x n;unfold aGK;have y:=AI x.1;simp only[Gv,↓C2,Gp,simprocAttr,y,Ab b,d];refine Vh ?_;simp only[↓C2,Gt,Gp,simprocAttr,eq_false r,AD c];refine Aq f.put.put j (λM c1 u=>?_);simp only[↓C2,Gy,simprocAttr];exact c1.endc x.2.2
def aPm(G:List D->Option D)(w:Wb)(o:Oc)(ma:Bool)(k2:List Tk)(gnl:Bool)(gone:List Bs)(d:G [.agg [.slice w.v.nlt [] (AG w.v.ks)],.str w.a.ot]=some (.tup [.agg [.slice ma [] (AG k2)],.slice gnl [] (strsD gone),.int .i64 0]))(h0:eF o)(hg:gone≠[])(hl:gone.length<=900)(hs:∀s∈gone,s.length<=1000000)(ua:gnl=true->gone=[]):W61 G w o []=some (.tup [],qL o ma k2 gnl gone,some ([11,28+10*gone.length])):=by
 refine A3 (λ_=>h0.ops) ⟨Qa rfl,λh=>Xc,λl h=>(by simp only[Qu]at h;subst h;exact⟨by cases gone with|nil=>exact absurd rfl hg|cons a r=>simp[qL,Ds],U⟩),λi m fr t ha ca ia n0=>?_⟩;have b:S61 G 214=some (Ac G):=rfl;have k:S61 G 211=some (Ac ES):=rfl;have q:S61 G 210=some (wQ Nu):=rfl;have xa:S61 G 145=some (wQ cY):=rfl;have hW:=Wt.start ha ca;unfold aGK;have xx:=AI ha.1;have qa:=It w (Ds (SD o ma k2) gone) (.names gnl gone) (λh=>by
  simp only[Ds,QA,ZL]at h;exact absurd h.2 hg) (by show gone.length<=1000;omega) ua
 simp only[GW]at qa;have na:(SD o ma k2).nl=o.nl∧(SD o ma k2).ops=[]:=⟨rfl,h0.ops⟩;simp only[Gv,↓C2,Gp,simprocAttr,xx,Ab b,d];refine Vh ?_;simp only[Gv,↓C2,Gp,simprocAttr,xx,n0,AP];refine Bf (n:=gone.length) (I:=λj x=>x.s 33= .slice gnl [] (strsD gone)∧x.s 34= .int .i64 gone.length∧x.s 35= .int .i64 (j:Int)∧x.s 0= .ptr i 0∧x.s 3= .slice gnl [] (strsD gone)∧x.c=31+10*j∧Wt i fr m o.nl t x.m w (Ds (SD o ma k2) (gone.take j)) (if j=0 then t else [11,28+10*j]++fr)) (λj hj ih x g hI=>?_) (λx g hI=>?_) 0 (Qi _) _ _ ⟨rfl,rfl,rfl,rfl,rfl,rfl,?_⟩
 ·obtain⟨ka,fa,da⟩:=x;obtain⟨z,ra,la,y,h3,hc,hw⟩:=hI;simp only at z ra la y h3 hc hw;refine Af iR.eq_1 ?_;have ea:((j:Int)<(gone.length:Int))=True:=eq_true O;have oa:=nJ (j:=j);have ja:=Df (l:=gone) (j:=j) hj;have u:IntKind.i64.wrap ((j:Int)+1)=((j+1:Nat):Int):=by rw[GS O O];omega
  have ba:=CF 3 0 gone[j] (hs _ (QL hj));have ta:(Ds (SD o ma k2) (gone.take j)).nl=true->(Ds (SD o ma k2) (gone.take j)).ops=[]:=λh=>by
   simp only[Ds,QA,ZL]at h ⊢;rw[na.2,h.2];rfl
  have f:(Ds (SD o ma k2) (gone.take j)).ops.length<=1000:=by simp[Ds,na.2];omega
  have sa:=Dw w (Ds (SD o ma k2) (gone.take j)) 2 (AX 3 gone[j] 0) [] ta f;rw[aA0,←QS hj]at sa;simp only[↓C2,Gt,Gp,simprocAttr,y,z,ra,la,ea,oa,Qm,ja,Ab k,ba,AD q];refine Aq hw sa (λM c1 c2=>?_);have e:L2 (if j=0 then t else [11,28+10*j]++fr) ((da+1+3+3)::fr) (some [11])=(if j+1=0 then t else [11,28+10*(j+1)]++fr):=by
   rw[if_neg (Qo j)];show [11]++_::fr=_;rw[show da+1+3+3=28+10*(j+1)by omega];rfl
  rw[e]at c1;simp only[↓C2,Gy,simprocAttr,la,u];exact ih _ _ ⟨z,ra,rfl,y,h3,Xa,c1⟩
 ·obtain⟨ka,fa,da⟩:=x;obtain⟨z,ra,la,y,h3,hc,hw⟩:=hI;simp only at z ra la y h3 hc hw;refine Af iR.eq_1 ?_;have ga:gone.length≠0:=λh=>hg (Zs.1 h)
  rw[Zr,if_neg ga]at hw;simp only[↓C2,Gt,Gp,simprocAttr,y,ra,la,h3,Q7,AD xa];refine Aq hw qa (λM c1 c2=>?_);simp only[↓C2,Gy,simprocAttr];exact c1.endl (l:=[11,28+10*gone.length]) U
 ·simp only[Q3,rN,if_true];exact(hW.put.put.cellp (p:=29) (ys:=[.slice ma [] (AG k2)]) (o':=SD o ma k2) (Qa rfl) rfl rfl rfl)
def nV(s p:List D->Option D):Gq:=Ap [(143,Ac vV),(144,wQ NX),(145,wQ cY),(146,wQ vS),(147,wQ W57),(148,wQ W58),(149,wQ W59),(150,wQ W60),(151,wQ (W61 s)),(152,wQ (W62 p)),(153,wQ Vi),(154,wQ S1)]
def R19(s p:List D->Option D):List D->Option D:=RF (nV s p) aGP [.cell (some 9) 6] 88
def aWl{s p:List D->Option D}(u:Kq s 214)(z:Kq p 217):(Ac (R19 s p)).ok Qd 87:=An (Aj func87:Fn Qd 87 88 aGP [.cell (some 9) 6]) (Aa aVU (Aa Rz (Aa gF (Aa gE (Aa aWg (Aa aWf (Aa aWe (Aa aWd (Aa (aWc u) (Aa (aWb z) (Aa aWa (Aa aV9 Ad))))))))))))
def GE(v:Vw):Oc:=⟨[],false,[],true,[],v⟩
def Lh(o:Oc):List D:=[.str o.need,.bool o.li,.str o.rep,.slice o.nl [] (DU o.ops)]++Hc o.vw
def aNa{m:Gu}{i:Id}{w:Wb}{o o':Oc}{k:Nat}{d:D}{ol:Option (List Nat)}(b:o.nl=true)(hi:∀l,i≠l++[k]):Ag (GA.app m (Vq i w o [] [k] (d,o',ol))) i 0 30=some (Hf w o' (L2 [] [k] ol)):=by
 cases ol with
 |none=>exact GQ (Cy _ _ _)
 |some l=>
  show Ag _ i 0 30=some (Hf w o' (l++[k]));rw[←GQ (m:=m) (i:=i) (Cy w o' (l++[k]))];refine Bo (λq j=>?_);have v:q.1=i:=Ed j;show GA.app (m.put i 0 (Hf w o' (l++[k]))) (A6 167 (l++[k]) (.slice o.nl [] (DU o.ops))) q.1 q.2=_;rw[FV,v,if_neg (λe=>hi l e.1),if_neg (λe=>by rw[b]at e;cases e.1)]
def aE1{m:Gu}{i j:Id}{w:Wb}{o o':Oc}{k x:Nat}{d:D}{ol:Option (List Nat)}(b:o.nl=true)(hi:∀l,j≠l++[k])(q:j≠i):GA.app m (Vq i w o [] [k] (d,o',ol)) j x=m j x:=by
 cases ol with
 |none=>exact aA q
 |some l=>
  show GA.app (m.put i 0 (Hf w o' (l++[k]))) (A6 167 (l++[k]) (.slice o.nl [] (DU o.ops))) j x=_;rw[FV,if_neg (λe=>hi l e.1),if_neg (λe=>by rw[b]at e;cases e.1),aA q]
def TV{a k:Nat}(h:a≠k):∀l:List Nat,([a]:Id)≠l++[k]:=λl e=>h (by have:=congrArg ZS e;simpa using this)
def mH{i:Id}{m:Gu}{w:Wb}{o o':Oc}{v:List D}{d:D}{ol:Option (List Nat)}{F:Wb->Oc->List D->Option WY}{S:Gq}{c k n:Nat}{ops l:List DOper}{s:Nat->D}{q:Option Nat}{K:Nat->(Nat->D)->Gu->Prop}{g}
  (y:F w o v=some (d,o',ol)) (p:UN m i (w,o,[])) (b:o.nl=true) (hi:∀l,i≠l++[n])
  (h:∀M,Ag M i 0 30=some (Hf w o' (L2 [] [n] ol))->(∀j x,(∀l,j≠l++[n])->j≠i->M j x=m j x)->Fz S [] c ops l k (BG s q d) M K):
  GL ((wQ F).ex (.ptr i 0::v) m [n]) (λx=>VO S [] c ops l k s q m K x.1 x.2) g:=
 mG p y (h _ (aNa b hi) (λ_ _ u z=>aE1 b u z))
inductive MO (G1 G2:List D->Option D) (v:Vw):Int->Oc->List D->(Wb->Oc->List D->Option WY)->Prop
 |o1:MO G1 G2 v 1 (GE v) [.agg (GW (.state v.se))] cY
 |o2:MO G1 G2 v 2 {GE v with vw:={v with se:=false}} [] vS
 |o3:MO G1 G2 v 3 {GE v with vw:={v with se:=true}} [] vS
 |o4:MO G1 G2 v 4 (GE v) [] W57
 |o5:MO G1 G2 v 5 (GE v) [] W58
 |o6:MO G1 G2 v 6 (GE v) [] W59
 |o7:MO G1 G2 v 7 (GE v) [] W60
 |o8:MO G1 G2 v 8 (GE v) [] (W61 G1)
 |o17:MO G1 G2 v 17 (GE v) [] (W62 G2)
 |o9:MO G1 G2 v 9 (GE v) [] Vi
 |o18:MO G1 G2 v 18 (GE v) [] Vi
 |o10:MO G1 G2 v 10 (GE v) [] S1
 |o11:MO G1 G2 v 11 (GE v) [] S1
 |o12:MO G1 G2 v 12 (GE v) [] S1
 |o13:MO G1 G2 v 13 (GE v) [] S1
 |o14:MO G1 G2 v 14 (GE v) [] S1
 |o15:MO G1 G2 v 15 (GE v) [] S1
 |o16:MO G1 G2 v 16 (GE v) [] S1
def Bw{s G2:List D->Option D}{v:Vw}{op:Int}{oc:Oc}{y:List D}{W:Wb->Oc->List D->Option WY}(hM:MO s G2 v op oc y W)(a:Ak)(k:Kn)(w:a.op=op)(ia:vV [Hv v,GT a]=some (.int .i64 0))(q:Oc)(ol:Option (List Nat))(hm:W ⟨v,a,k⟩ oc y=some (.tup [],q,ol)):R19 s G2 [Hv v,GT a,.agg (G6 k)]=some (.agg (Lh q)):=by
 refine Am (Qa rfl) ?_;have b:nV s G2 143=some (Ac vV):=rfl;have p:nV s G2 145=some (wQ cY):=rfl;have l:nV s G2 146=some (wQ vS):=rfl;have h:nV s G2 147=some (wQ W57):=rfl;have e:nV s G2 148=some (wQ W58):=rfl;have g:nV s G2 149=some (wQ W59):=rfl;have c:nV s G2 150=some (wQ W60):=rfl;have i:nV s G2 151=some (wQ (W61 s)):=rfl;have o:nV s G2 152=some (wQ (W62 G2)):=rfl;have m:nV s G2 153=some (wQ Vi):=rfl;have j:nV s G2 154=some (wQ S1):=rfl;unfold aGP;obtain⟨op,tk,pa,ot,n,cas,fl,d,ns,u,f,rs,z⟩:=a;simp only at w;subst w;unfold Hv GT at *;unfold Hc GO G6 at *;cases hM<;>simp only[Gv,↓C2,Gp,simprocAttr,Ab b,ia,AD p,AD l,AD h,AD e,AD g,AD c,AD i,AD o,AD m,AD j]
 all_goals
  refine mH hm ⟨by first|exact GQ rfl|exact(fC (show Ag _ [10] 0 30=some (Hf ⟨v,⟨_,tk,pa,ot,n,cas,fl,d,ns,u,f,rs,z⟩,k⟩ (GE v) [])from GQ rfl) (Qa rfl)).trans rfl,rfl,λ_=>rfl⟩ rfl (TV V) (λM c1 r=>?_);have xx:=AI c1;have t:∀x,M [3] x=_:=λx=>r [3] x (TV V) V
  simp only[Gv,↓C2,Gp,simprocAttr,xx,t]
  all_goals exact YT
def aDm(s p:List D->Option D)(v:Vw)(a:Ak)(k:Kn)(e:Int)(r:e≠0)(g:vV [Hv v,GT a]=some (.int .i64 e))(q:Oc)(ol:Option (List Nat))(w:NX ⟨v,a,k⟩ (GE v) [.int .i64 e]=some (.tup [],q,ol)):R19 s p [Hv v,GT a,.agg (G6 k)]=some (.agg (Lh q)):=by
 refine Am (Qa rfl) ?_;have b:nV s p 143=some (Ac vV):=rfl;have c:nV s p 144=some (wQ NX):=rfl;unfold aGP;obtain⟨op,tk,o,j,n,cas,i,d,ns,u,f,rs,z⟩:=a;unfold Hv GT at *;unfold Hc GO G6 at *;simp only[Gv,↓C2,Gp,simprocAttr,Ab b,g,eq_false r,AD c];refine mH w ⟨GQ rfl,rfl,λ_=>rfl⟩ rfl (TV V) (λM c1 m=>?_);have y:=AI c1;have t:∀x,M [3] x=_:=λx=>m [3] x (TV V) V
 simp only[Gv,↓C2,Gp,simprocAttr,y,t]
 all_goals exact YT
def BU(l:List Tk)(s:Bs):List Bs:=(l.filter λt=>decide (t.2.1=s)&&decide (t.1≠s)).map (·.1)
def DJ(l:List Tk):Nat->Bs->List Bs
 |0,s=>[s]
 |f+1,s=>s::(BU l s).flatMap (DJ l f)
structure Hd (l:List Tk) (r:Bs->Nat):Prop where
 up:∀t∈l,r t.2.1<r t.1
 top:∀t∈l,r t.1<=l.length
 one:l.Pairwise λt u=>t.1≠u.1
def Hd.eq{l:List Tk}{r:Bs->Nat}(h:Hd l r){t u:Tk}(k:t∈l)(m:u∈l)(e:t.1=u.1):t=u:=by
 have q:=h.one;clear h;induction l with
 |nil=>cases k
 |cons a l ih=>
  rw[QM]at q;rcases Qq.1 k with ht'|ht'
  ·grind
  ·grind
inductive Hk (l:List Tk) (s:Bs):Bs->Prop
 |refl:Hk l s s
 |step (t:Tk):t∈l->Hk l s t.2.1->Hk l s t.1
def Hk.trans{l:List Tk}{a b c:Bs}(h:Hk l a b)(k:Hk l b c):Hk l a c:=by
 induction k with
 |refl=>exact h
 |step t u _ ih=>exact .step t u ih
def Ug{l:List Tk}{s c:Bs}(h:c∈BU l s):∃t∈l,t.2.1=s∧t.1=c∧c≠s:=by
 grind [BU]
def IP{l:List Tk}:∀(f:Nat)(s x:Bs),x∈DJ l f s->Hk l s x
 |0,s,x,h=>by
  rw[DJ,Zi]at h;subst h;exact .refl
 |f+1,s,x,h=>by
  rw[DJ]at h;rcases Qq.1 h with rfl|h
  ·exact .refl
  ·obtain⟨c,y,q⟩:=Zt.1 h;obtain⟨t,u,rfl,rfl,_⟩:=Ug y;exact(Hk.step t u .refl).trans (IP f _ x q)
section
variable{l:List Tk}{r:Bs->Nat}(T:Hd l r)
include T
def cP{s x:Bs}(h:Hk l s x):r s<=r x:=by
 induction h with
 |refl=>exact Qg _
 |step t u _ ih=>exact QE ih (Nat.le_of_lt (T.up t u))
def aCL{a b x:Bs}(h:Hk l a x)(k:Hk l b x):Hk l a b∨Hk l b a:=by
 induction h with
 |refl=>exact .inr k
 |step t n q ih=>
  generalize e:t.1=y at k;cases k with
  |refl=>subst e;exact .inl (.step t n q)
  |step u m o=>
   have:=T.eq n m e;subst this;exact ih o
def Ia{s c:Bs}(h:c∈BU l s):r s<r c∧r c<=l.length:=by
 obtain⟨t,u,rfl,rfl,_⟩:=Ug h;exact⟨T.up t u,T.top t u⟩
theorem mB{s a b:Bs}(x:a∈BU l s)(o:b∈BU l s)(h:Hk l a b):a=b:=by
 have q:=(Ia T x).1;obtain⟨u,m,c,rfl,_⟩:=Ug o;generalize e:u.1=y at h;cases h with
 |refl=>rfl
 |step t k z=>
  have:=T.eq k m e.symm;subst this;have:=cP T z;rw[c]at this;omega
def gJ(s:Bs):(BU l s).Nodup:=by
 unfold BU;have h:=(T.one.filter (λt=>decide (t.2.1=s)&&decide (t.1≠s)));rw[QN];exact List.pairwise_map.2 h
def SU:∀(f:Nat)(s:Bs),(DJ l f s).Nodup
 |0,s=>by simp[DJ]
 |f+1,s=>by
  rw[DJ,ZO];refine⟨λh=>?_,?_⟩
  ·obtain⟨c,k,q⟩:=Zt.1 h;have:=cP T (IP f c s q);have:=(Ia T k).1;omega
  ·rw[QN,List.pairwise_flatMap];refine⟨λc _=>QN.1 (SU f c),?_⟩;have g:=QN.1 (gJ T s);refine List.Pairwise.imp_of_mem ?_ g;intro a b p o j x q y r e;subst e;rcases aCL T (IP f a x q) (IP f b x r)with h|h
   ·grind [mB]
   ·grind [mB]
omit T in
def mV{f:Nat}{s x:Bs}(h:x∈DJ l f s):x∈s::l.map (·.1):=by
 have:=IP f s x h;cases this with
 |refl=>exact Qp ..
 |step t u _=>exact QF _ (Qv.2 ⟨t,u,rfl⟩)
omit T in
def Sv:∀(a b:List Bs),a.Nodup->(∀x∈a,x∈b)->a.length<=b.length
 |[],b,_,_=>Qi _
 |x::a,b,h,k=>by
  rw[ZO]at h;have q:=k x (Qp ..);have:=Sv a (b.erase x) h.2 (λy s=>by
   have c:=k y (QF _ s);exact(List.mem_erase_of_ne (λ(e:y=x)=>h.1 (by rw[←e];exact s))).2 c)
  rw[List.length_erase_of_mem q]at this;have u:0<b.length:=List.length_pos_of_mem q;rw[Qb];omega
def mW(f:Nat)(s:Bs):(DJ l f s).length<=l.length+1:=by
 have:=Sv _ _ (SU T f s) (λx q=>mV q);simpa using this
end
end Go.Vd
namespace Go.Proofs
open Go.Shelf
def bA:Go.Shelf.Ren:=⟨λ|190=>268|125=>252|258=>311|128=>304|129=>305|302=>333|303=>334|304=>335|305=>336|306=>337|307=>338|308=>339|309=>340|310=>341|333=>345|329=>325|330=>326|334=>346|335=>347|336=>113|344=>348|n=>n,λ|31=>23|9=>9|3=>3|46=>109|0=>0|51=>268|53=>185|4=>4|183=>347|182=>346|131=>103|5=>5|218=>375|222=>379|228=>389|229=>390|n=>n,λ|n=>n⟩
def aU:Go.Proofs.Lays.n190 Qd bA:={
 mixed:=Z
 f125:=func252.trans (congrArg some Z)
 f128:=func304.trans (congrArg some Z)
 f129:=func305.trans (congrArg some Z)
 f190:=func268.trans (congrArg some Z)
 f258:=func311.trans (congrArg some Z)
 f302:=func333.trans (congrArg some Z)
 f303:=func334.trans (congrArg some Z)
 f304:=func335.trans (congrArg some Z)
 f305:=func336.trans (congrArg some Z)
 f306:=func337.trans (congrArg some Z)
 f307:=func338.trans (congrArg some Z)
 f308:=func339.trans (congrArg some Z)
 f309:=func340.trans (congrArg some Z)
 f310:=func341.trans (congrArg some Z)
 f329:=func325.trans (congrArg some Z)
 f330:=func326.trans (congrArg some Z)
 f333:=func345.trans (congrArg some Z)
 f334:=func346.trans (congrArg some Z)
 f335:=func347.trans (congrArg some Z)
 f336:=func113.trans (congrArg some Z)
 f344:=func348.trans (congrArg some Z)
 t0:=underlying0
 a0:=isAgg0
 z0:=sizeOf0
 v0:=zeroValue0
 t3:=underlying3
 a3:=isAgg3
 z3:=sizeOf3
 v3:=zeroValue3
 t4:=underlying4
 a4:=isAgg4
 z4:=sizeOf4
 v4:=zeroValue4
 t5:=underlying5
 a5:=isAgg5
 z5:=sizeOf5
 v5:=zeroValue5
 t9:=underlying9
 a9:=isAgg9
 z9:=sizeOf9
 v9:=zeroValue9
 t31:=underlying23
 a31:=isAgg23
 z31:=sizeOf23
 v31:=zeroValue23
 t46:=underlying109
 a46:=isAgg109
 z46:=sizeOf109
 v46:=zeroValue109
 t51:=underlying268
 a51:=isAgg268
 z51:=sizeOf268
 v51:=zeroValue268
 t53:=underlying185
 a53:=isAgg185
 z53:=sizeOf185
 v53:=zeroValue185
 t131:=underlying103
 a131:=isAgg103
 z131:=sizeOf103
 v131:=zeroValue103
 t182:=underlying346
 a182:=isAgg346
 z182:=sizeOf346
 v182:=zeroValue346
 t183:=underlying347
 a183:=isAgg347
 z183:=sizeOf347
 v183:=zeroValue347
 t218:=underlying375
 a218:=isAgg375
 z218:=sizeOf375
 v218:=zeroValue375
 t222:=underlying379
 a222:=isAgg379
 z222:=sizeOf379
 v222:=zeroValue379
 t228:=underlying389
 a228:=isAgg389
 z228:=sizeOf389
 v228:=zeroValue389
 t229:=underlying390
 a229:=isAgg390
 z229:=sizeOf390
 v229:=zeroValue390}
def bB:Go.Shelf.Ren:=⟨λ|194=>272|n=>n,λ|31=>23|9=>9|3=>3|4=>4|0=>0|n=>n,λ|n=>n⟩
def aZ:Go.Proofs.Lays.n194 Qd bB:={
 mixed:=Z
 f194:=func272.trans (congrArg some Z)
 t0:=underlying0
 a0:=isAgg0
 z0:=sizeOf0
 v0:=zeroValue0
 t3:=underlying3
 a3:=isAgg3
 z3:=sizeOf3
 v3:=zeroValue3
 t4:=underlying4
 a4:=isAgg4
 z4:=sizeOf4
 v4:=zeroValue4
 t9:=underlying9
 a9:=isAgg9
 z9:=sizeOf9
 v9:=zeroValue9
 t31:=underlying23
 a31:=isAgg23
 z31:=sizeOf23
 v31:=zeroValue23}
end Go.Proofs
namespace Go.Vd
open Go.Proofs Go.RowKit
def Gh.base(G:Nat->Nat):Gh:={G:=G,G0:=G,dl:=λ_=>none,tb:=λ_=>none}
theorem FJ {P : Program} {f : FuncId} {F : List D → Option D} (va : ∃ fn, P.funcs[f]? = some fn ∧ fn.body.isSome = true ∧ (fn.name == "runtime.NumGoroutine") = false)
  (h : ∀ ds r, F ds = some r → ∀ (vs : List Value) (w : World) (G : Nat → Nat), vs.length = ds.length → (∀ (j : Nat) d v, ds[j]? = some d → vs[j]? = some v → Rep w (Gh.base G) d v) → (∀ b, w.heap.size ≤ b → G b = 0) →
   r.calmR = true ∧ Calls P f vs.toArray w fun e s => ∃ v G', e = .returned v ∧ Below w.heap.size w s ∧ (∀ b, s.heap.size ≤ b → G' b = 0) ∧ (∀ b, b < w.heap.size → G' b = G b) ∧ Rep s (Gh.base G') r v) : (Ac F).ok P f := by
 refine ⟨va, fun ds m m' fr _ => rfl, ?_⟩
 intro B w0 w m g fr ds vs r u hi q hl c z
 simp only [Ac] at z
 split at z
 ·rename_i ia
  rw [Qx] at z
  obtain ⟨r', t, z⟩ := z
  simp only [QU] at z
  obtain ⟨rfl, rfl⟩ := z
  have n : ∀ (j : Nat) d v, (ds.map D.un)[j]? = some d → vs[j]? = some v → Rep w (Gh.base g.G) d v := by
   intro j d v p x
   have y := Zc.1 ia d (QT p)
   rw [Za, Qx] at p
   obtain ⟨d', qa, rfl⟩ := p
   exact (c j d' v qa x).un.calm_to y (fun _ _ => rfl) (fun _ => Qg _)
  obtain ⟨ga, y⟩ := h _ _ t vs w g.G (by rw [QH]; exact hl) n hi.gz
  refine y.mono ?_
  rintro e s ⟨v, G', rfl, o, hz, ho, hR⟩
  have a : ∀ b, (g.glue w G').G b = G' b := by
   grind [Gh.glue]
  refine ⟨v, g.glue w G', rfl, hi.glue o hz, GR.glue hi.gz o, ?_, fun i k _ => k⟩
  exact hR.calmR_to ga (fun _ _ => rfl) (fun b => by rw [a]; exact Qg _)
 ·cases z
def DV{P:Program}{f:FuncId}{F:List D->Option D}(k:(Ac F).ok P f){ds:List D}{r:D}(q:F ds=some r)(z:ds.all D.calm=true)(y:ds.map D.un=ds){vs:List Value}{w:World}{G:Nat->Nat}
  (hl:vs.length=ds.length) (c:∀(j:Nat) d v,ds[j]?=some d->vs[j]?=some v->Rep w (Gh.base G) d v) (n:∀b,w.heap.size<=b->G b=0):
  Calls P f vs.toArray w λe t=>∃v m,e= .returned v∧Below w.heap.size w t∧Rep t m r v:=by
 have a:GD P w.heap.size w (λ_ _=>none) w (Gh.base G):=
  ⟨Below.refl _ _,Qg _,n,λ_ _=>rfl,λi b h=>XB,λi i' b h=>XB,λi o d h=>Xd,λi e h=>Xd,λi i' e e' b x x' h=>Xd,λi s p h=>Xd,λi i' s p s' p' b x x' h=>Xd⟩
 refine(k.run (fr:=[0]) (ds:=ds) (r:=r) (u:=[]) a (λi _=>⟨λ_=>rfl,rfl,rfl⟩) hl c ?_).mono ?_
 ·grind [Ac]
 ·rintro e t ⟨v,m,rfl,g⟩;exact⟨v,m,rfl,g.inv.below,g.rep⟩
def HZ{P:Program}{f:FuncId}{F:List D->Option D}(x:(Ac F).ok P f){ds:List D}{r:D}(z:F ds=some r)(y:ds.all (λd=>match d with| .str _| .int _ _| .bool _=>true|_=>false)=true)(w:World):
  Calls P f (ds.map plV).toArray w λe t=>∃v a,e= .returned v∧Below w.heap.size w t∧Rep t a r v:=by
 have u:∀d∈ds,d.calm=true∧d.un=d∧∀w g,Rep w g d (plV d):=by
  intro d p;have:=Zc.1 y d p;cases d with
  |str s=>exact⟨rfl,rfl,λw g=> .str s⟩
  |int k n=>exact⟨rfl,rfl,λw g=> .int k n⟩
  |bool b=>exact⟨rfl,rfl,λw g=> .bool b⟩
  |_=>cases this
 refine DV x z (Zc.2 λd p=>(u d p).1) ?_ (G:=λ_=>0) U (λj d v p m=>?_) (λ_ _=>rfl)
 ·conv=>rhs;rw[←List.map_id ds]
  exact List.map_congr_left λd p=>(u d p).2.1
 ·grind
def Gf:∀l:List Bs,flat (strsD l)=strsD l
 |[]=>rfl
 |s::l=>by
  show(D.str s).cells++flat (strsD l)=_;rw[Gf l];rfl
def eR{w:World}{g:Gh}{nl:Bool}{t:Id}{l:List Bs}{v:Value}(h:Rep w g (.slice nl t (strsD l)) v):
  ∃m c,v= .slice m l.length c∧∀j s,l[j]?=some s->∃a,m=some a∧w.cell? (a.add j)=some (encStr s):=by
 rcases h.slice_inv with ⟨_,f,rfl⟩|⟨_,ad,n,c,sz,p,rfl,o,y,x,k,i,u,b,z,r9⟩
 ·have:l=[]:=by cases l with|nil=>rfl|cons=>cases f
  subst this;exact⟨none,0,rfl,λj s h=>Xd⟩
 ·rw[AP]at o;subst o;refine⟨some ad,c,rfl,λj s q=>⟨ad,rfl,?_⟩⟩;have r:j<l.length:=(Qy.1 q).1;have d:sz=1:=(x (.str s) (Qv.2 ⟨s,QT q,rfl⟩)).symm;subst d;have e:=u j (.str s) (by rw[Gf];simp[strsD,q]);rw[k j O];cases hv:p j<;>rw[hv]at e<;>cases e;rfl
def LW{w:World}{B e n b c:Nat}{ys:List Bs}{g:Gh}(h:w.ownsRow B e 1 (.slice (some ⟨b,0,none⟩) n c) n (ys.map encStr))(i:n<=g.G b):Rep w g (.slice false [] (strsD ys)) (.slice (some ⟨b,0,none⟩) n c):=by
 have a:ys.length=n:=by simpa using h.1
 have k:n<=c:=by
  rcases h.2 with ⟨f,_⟩|⟨y,cap,cur,m,_,_,u,_⟩
  ·cases f
  ·cases m;exact u
 refine .slice [] _ ⟨b,0,none⟩ n c 1 (λj=>encStr (ys.getD j [])) (by rw[AP,a]) k (λd p=>?_) (λj q=>?_) (λj q=>rfl) (λj d p=>?_) (λ_=>Xa) (λh=>absurd rfl h) (λd p=>?_)
 ·obtain⟨s,_,rfl⟩:=Qv.1 p;rfl
 ·have x:j<ys.length:=by omega
  exact h.cells rfl j _ (by simp[QB,x])
 ·rw[Gf]at p;simp only[strsD,Za,Qx]at p;obtain⟨s,o,rfl⟩:=p;have:ys.getD j []=s:=by simp[QB,o]
  rw[this];exact .str s
 ·obtain⟨s,_,rfl⟩:=Qv.1 p;rfl
end Go.Vd
namespace Go.Vd
open Go.Proofs Go.RowKit Go.Sort Go.Shelf
def FL(z:Bs)(l:List Bs):List Bs:=l.filterMap λs=>if(B4 s z).2=true then some (B4 s z).1 else none
def SE(z s:Bs)(l:List Bs):FL z (s::l)=if(B4 s z).2=true then(B4 s z).1::FL z l else FL z l:=by
 grind [FL]
def aMN(w:World)(b:List Bs)(e:Ending)(s:World):Prop:=
 ∃v,e= .returned v∧Below w.heap.size w s∧((v= .slice none 0 0∧b=[])∨(b≠[]∧∃g cap,v= .slice (some ⟨g,0,none⟩) (Lib.compact (b.mergeSort λx y=>decide (x<=y))).length cap∧w.heap.size<=g∧g<s.heap.size∧
  s.ownsRow w.heap.size 9 1 v (Lib.compact (b.mergeSort λx y=>decide (x<=y))).length ((Lib.compact (b.mergeSort λx y=>decide (x<=y))).map encStr)))
def aAk{w c:World}{g cap n nn q:Nat}{os:Array Obj}{b:List (List UInt8)}(d:c.ownsRow w.heap.size 9 1 (.slice (some ⟨g,0,none⟩) n cap) n (b.map encStr))(a:Below w.heap.size w c)(u:w.heap.size<=g)(v:b.length=n)(ga:b≠[]):
  aMN w b (.returned (.slice (some ⟨g,0,none⟩) (Lib.compact (b.mergeSort λx y=>decide (x<=y))).length cap))
   (putRow encStr (Sort.ahead (grow (putRow encStr (Sort.ahead c nn) g 0 (b.mergeSort λx y=>decide (x<=y)).toArray) os) q) g 0 (Lib.compact (b.mergeSort λx y=>decide (x<=y))++ZB (n-(Lib.compact (b.mergeSort λx y=>decide (x<=y))).length) []).toArray):=by
 have e:(b.mergeSort λx y=>decide (x<=y)).length=b.length:=Qt b;have sa:=Lib.compact_length_le (b.mergeSort λx y=>decide (x<=y));subst v;rcases d.2 with ⟨i,_⟩|⟨g',m,cur,hv,z,o,f,t,h3,r⟩
 ·cases i
 cases hv;have hs:=ownsRow_sorted (n:=nn) (os:=os) (ts:=b.mergeSort λx y=>decide (x<=y)) e z o f t h3;have p:=Lib.ownsRow_putRow (q:=q) (k:=(Lib.compact (b.mergeSort λx y=>decide (x<=y))).length) (ys:=Lib.compact (b.mergeSort λx y=>decide (x<=y))++ZB (b.length-(Lib.compact (b.mergeSort λx y=>decide (x<=y))).length) []) hs Xb O;rw[List.take_left]at p;exact⟨_,rfl,Lib.below_putRow (a.grown (grownBy_sorted _) a.size (λj s=>by cases s;exact z)) u,.inr ⟨ga,g,cap,rfl,u,(p.lt g rfl).2,p⟩⟩
def gT:(Tryz.prog.info? 9).map (λi=>(i.zero,i.size,i.bytes))=some (some (.string ByteArray.empty),1,16):=Z
def fJ(v:Value):v.ownBlock=none∨v.ownBlock≠none:=Classical.em _
def BV{B:Nat}{w s:World}(h:Below B w s)(d:w.heap.size<=B)(row:Option Nat)(g:w.heap.size<=s.heap.size):w.grownBy s row:=⟨h.os,h.tape,h.output,g,λk o _=>h.block k O⟩
def Eu{w r:World}{a:Addr}{v:Value}(o:Below w.heap.size w r)(h:w.cell? a=some v):r.cell? a=some v:=(o.cell (World.block_lt_of_cell? _ _ h)).trans h
def iF{α:Type}{l:List α}{j:Nat}{x:α}(h:l[j]?=some x):l.drop j=x::l.drop (j+1):=by
 obtain⟨u,rfl⟩:=Qy.1 h;exact Zl u
def aVy(w:World)(aa:Bs)(l:List Bs)(ao:Option Addr)(c:Nat)(hl:l.length<=2000)
  (ha:∀j s,l[j]?=some s->∃a,ao=some a∧w.cell? (a.add j)=some (encStr s))
  (r:∀s∈l,∀w,Calls Qd 271 #[encStr s,encStr aa] w λe w'=>e= .returned (.tuple #[encStr (B4 s aa).1,.bool (B4 s aa).2])∧Below w.heap.size w w'):
  Calls Qd 217 #[encStr aa,.slice ao l.length c] w (aMN w (FL aa l)):=by
 obtain⟨i0,hi,hx⟩:=Qx.1 gT;simp only[QU]at hx;obtain⟨sa,pa,xa⟩:=hx;have HC:Aside (∀j s,l[j]?=some s->∃a,ao=some a∧w.cell? (a.add j)=some (encStr s)):=ha;have H2:Aside (∀s∈l,∀w,Calls Qd 271 #[encStr s,encStr aa] w λe w'=>e= .returned (.tuple #[encStr (B4 s aa).1,.bool (B4 s aa).2])∧Below w.heap.size w w'):=r;clear ha r;generalize wa:encStr aa=vt at *;generalize hn:l.length=n at *
 go_enter func217,ntmps217
 go_wp2_with fail
 go_loopg [5,12] n (λg s5 ma wx=>∃(k:Nat)(ks:List Bs),k+g=n∧ma= .int .i64 k∧Aside (ks++FL aa (l.drop k)=FL aa l)∧ks.length<=k∧
  wx.ownsRow w.heap.size 9 1 s5 ks.length (ks.map encStr)∧Aside (s5= .slice none 0 0↔ks=[])∧Below w.heap.size w wx)
 case atStart=>exact⟨0,[],O,rfl,rfl,Qg _,World.ownsRow_nil _ _ _ _,ZX (λ_=>rfl) (λ_=>rfl),Below.refl _ _⟩
 case round=>
  obtain⟨k,ks,va,rfl,HI,oa,ca,ua,fa⟩:=hrel;cases gk with
  |zero=>
   have ta:¬((k:Int)<(n:Int)):=O
   have HK:Aside (ks=FL aa l):=by
    have:=HI.out;rw[QZ O]at this;show ks=_;simpa[FL]using this
   by_cases na:ks=[]
   ·subst na;have e0:u5= .slice none 0 0:=ua.out.2 rfl;subst e0;clear ua
    go_wp2_with (first
     |(go_at_call 268;refine(Any.slices_Sort_string_none aU none 0 _).mono ?_;rintro e w2 ⟨rfl,rfl⟩)
     |(go_at_call 272;refine(Any.slices_Compact_string_empty aZ none 0 _).mono ?_;rintro e w3 ⟨rfl,rfl⟩))
    go_ret
    exact⟨_,rfl,fa,.inl ⟨rfl,HK.out.symm⟩⟩
   ·have v:u5≠ .slice none 0 0:=λe=>na (ua.out.1 e)
    obtain⟨g0,h,rfl,u,z,ga,fb,ba,hH⟩:=Lib.holds_of_ownsRow ca v;have m:Calls Qd 268 #[.slice (some ⟨g0,0,none⟩) ks.length h] wr λe w'=>e= .returned (.tuple #[])∧∃n os,w'=grow (putRow encStr (Sort.ahead wr n) g0 0 (ks.mergeSort λx y=>decide (x<=y)).toArray) os:=Any.slices_Sort_string aU g0 0 h ks wr hH z O
    have o:∀nn os,Calls Qd 272 #[.slice (some ⟨g0,0,none⟩) ks.length h] (grow (putRow encStr (Sort.ahead wr nn) g0 0 (ks.mergeSort λx y=>decide (x<=y)).toArray) os) λe w'=>
      e= .returned (.slice (some ⟨g0,0,none⟩) (Lib.compact (ks.mergeSort λx y=>decide (x<=y))).length h)∧∃q,w'=putRow encStr (Sort.ahead (grow (putRow encStr (Sort.ahead wr nn) g0 0 (ks.mergeSort λx y=>decide (x<=y)).toArray) os) q) g0 0 (Lib.compact (ks.mergeSort λx y=>decide (x<=y))++ZB (ks.length-(Lib.compact (ks.mergeSort λx y=>decide (x<=y))).length) []).toArray:=λnn os=>by
     have ka:(ks.mergeSort λx y=>decide (x<=y)).length=ks.length:=Qt ks;have qa:Go.Sort.Holds encStr (grow (putRow encStr (Sort.ahead wr nn) g0 0 (ks.mergeSort λx y=>decide (x<=y)).toArray) os) g0 0 (ks.mergeSort λx y=>decide (x<=y)).toArray:=
      holds_grow encStr _ os g0 0 _ (by simpa[putRow,mapBlock,Sort.ahead]using z) (holds_putRow encStr _ g0 0 _ _ (holds_ahead encStr wr nn g0 0 _ hH) U)
     have:=Any.slices_Compact_string aZ g0 0 h (ks.mergeSort λx y=>decide (x<=y)) _ qa O O;rw[ka]at this;exact this
    have X:Aside (wr.ownsRow w.heap.size 9 1 (.slice (some ⟨g0,0,none⟩) ks.length h) ks.length (ks.map encStr)∧Below w.heap.size w wr):=⟨ca,fa⟩;clear ca fa hH ua v
    go_wp2_with (first
     |(go_at_call 268;refine m.mono ?_;rintro e w2 ⟨rfl,nn,os,rfl⟩)
     |(go_at_call 272;refine(o _ _).mono ?_;rintro e w3 ⟨rfl,q,rfl⟩))
    go_ret
    rw[←HK.out];exact aAk X.out.1 X.out.2 u rfl na
  |succ g=>
   have ta:(k:Int)<(n:Int):=O
   obtain⟨s,hs⟩:∃s,l[k]?=some s:=⟨_,Qf O⟩;obtain⟨a,rfl,ia⟩:=HC.out k s hs;have t:wr.cell? (a.add k)=some (encStr s):=Eu fa ia;have hd:Aside (l.drop k=s::l.drop (k+1)):=iF hs;have c2:=H2.out s (QT hs) wr;clear hs ia;have ja:=fa.size;generalize ea:encStr s=vs at *;cases hb:(B4 s aa).2 with
   |true=>
    rw[hb]at c2;generalize hp:(B4 s aa).1=p at c2;have d:Aside (FL aa (l.drop k)=p::FL aa (l.drop (k+1))):=by
     show _=_;rw[hd.out,SE,if_pos hb,hp]
    clear hp hb
    go_wp2_with (first
     |(go_at_call 271;refine c2.mono ?_;rintro e w2 ⟨rfl,la⟩;have ra:=la.size;have b:=ca.kept (BV la (Qg _) none ra) (fJ _))
     |(at_builtin;refine wpList_append_own _ rfl _ _ 23 rfl w.heap.size 9 i0 (.string ByteArray.empty) 1 16 underlying23 hi sa pa xa rfl V _ _ _ rfl (b.alloc _) ⟨w2.heap.size,0,none⟩ 1 1 [encStr p] rfl rfl (cell_one_new _ _ _) (λx hx=>Yb) Xs O Xb ?_;intro v' w3 da f i))
    go_roundg g
    case measure=>omega
    case rel=>exact⟨k+1,ks++[p],O,Xy,Yd,Xb,by simpa using da,by show _↔_;rw[i];simp,
      ((fa.grown (BV la (Qg _) none ra) ja (λj hj=>by cases hj)).alloc O _).grown f Xb (λj hj=>(b.lt j hj).1)⟩
   |false=>
    rw[hb]at c2;generalize hp:(B4 s aa).1=p at c2;have d:Aside (FL aa (l.drop k)=FL aa (l.drop (k+1))):=by
     show _=_;rw[hd.out,SE,if_neg (by rw[hb];decide)]
    clear hp hb
    go_wp2_with (first
     |(go_at_call 271;refine c2.mono ?_;rintro e w2 ⟨rfl,la⟩;have ra:=la.size;have b:=ca.kept (BV la (Qg _) none ra) (fJ _)))
    go_roundg g
    case measure=>omega
    case rel=>exact⟨k+1,ks,O,Xy,XZ,O,b,ua,fa.grown (BV la (Qg _) none ra) ja (λj hj=>by cases hj)⟩
abbrev pB(b:Nat):Value:= .pointer (some ⟨b,0,none⟩)
section
variable(w0:World)(bg bs bt b4:Nat)(l:List Tk)(ao:Option Addr)(c:Nat)
structure GG (w:World) (vg:Value) (xs:List Bs):Prop where
 own:w.ownsRow w0.heap.size 9 1 vg xs.length (xs.map encStr)
 g:w.heap[bg]?=some (.cells #[vg] 23 (0,0))
 s:w.heap[bs]?=some (.cells #[.slice ao l.length c] 31 (0,0))
 t:w.heap[bt]?=some (.cells #[.func (.func 267) #[] #[pB bg,pB bs,pB bt]] 325 (0,0))
 nl:vg= .slice none 0 0↔xs=[]
 r:w.heap[b4]?=some (.cells #[.slice none 0 0] 31 (0,0))
 below:Below w0.heap.size w0 w
theorem MW{w:World}{B e j n b:Nat}{v:Value}{xs:List Value}{cs:Array Value}{T:TypeId}{fr:Nat×Nat}(h:w.ownsRow B e j v n xs)(o:w.heap[b]?=some (.cells cs T fr))(q:T≠e):some b≠v.ownBlock:=by
 rcases h.2 with ⟨rfl,_⟩|⟨g,cap,cur,rfl,_,p,_⟩
 ·intro h;cases h
 ·intro h;simp only[Value.ownBlock,Qu]at h;subst h;rw[o]at p;simp only[Qu,Obj.cells.injEq]at p;exact q p.2.1
variable{w0 bg bs bt b4 l ao c}
def GG.app{w w3:World}{vg v':Value}{xs:List Bs}{o:Obj}{name:Bs}(u:w0.heap.size<=bg)(T:GG w0 bg bs bt b4 l ao c w vg xs)(ja:w3.ownsRow w0.heap.size 9 1 v' (xs.length+1) (xs.map encStr++[encStr name]))(ka:(w.alloc o).grownBy w3 vg.ownBlock)(ma:v'= .slice none 0 0↔vg= .slice none 0 0∧(1:Nat)=0):
  ∃g cap,v'= .slice (some ⟨g,0,none⟩) (xs.length+1) cap∧w3.cell? ⟨bg,0,none⟩=some vg∧w3.frozen? ⟨bg,0,none⟩=false∧(w3.setCell ⟨bg,0,none⟩ v').cell? ⟨bs,0,none⟩=some (.slice ao l.length c)∧GG w0 bg bs bt b4 l ao c (w3.setCell ⟨bg,0,none⟩ v') v' (xs++[name]):=by
 have hl:∀{b:Nat} {cs:Array Value} {T:TypeId},w.heap[b]?=some (.cells cs T (0,0))->T≠9->w3.heap[b]?=some (.cells cs T (0,0)):=λ{b cs Ty} m hT=>by
  have x:b<w.heap.size:=(Qw.1 m).1;rw[ka.block b Xb (MW T.own m hT),heap_alloc_old w o x];exact m
 have g1:=hl T.g V;have s1:=hl T.s V;have t1:=hl T.t V;have r1:=hl T.r V;have ga:v'≠ .slice none 0 0:=λe=>by have:=(ma.1 e).2;omega
 rcases ja.2 with ⟨i,_⟩|⟨g,cap,cur,j,z,m,q,v,y,h4⟩
 ·exact absurd i ga
 have a:g≠bg:=λe=>by
  subst e;rw[g1]at m;simp only[Qu,Obj.cells.injEq]at m;exact absurd m.2.1 V
 have n:∀k,k≠bg->(w3.setCell ⟨bg,0,none⟩ v').heap[k]?=w3.heap[k]?:=λk p=>heap_setCell_other w3 ⟨bg,0,none⟩ k _ p
 have la:bs≠bg:=λe=>by have:=T.s;rw[e,T.g]at this;simp at this
 have f:bt≠bg:=λe=>by have:=T.t;rw[e,T.g]at this;simp at this
 have d:b4≠bg:=λe=>by have:=T.r;rw[e,T.g]at this;simp at this
 have s2:(w3.setCell ⟨bg,0,none⟩ v').heap[bs]?=some (.cells #[.slice ao l.length c] 31 (0,0)):=(n bs la).trans s1;refine⟨g,cap,j,by simp[World.cell?,g1],by simp[World.frozen?,g1],by simp[World.cell?,s2],⟨?_,?_,s2,(n bt f).trans t1,⟨λe=>absurd e ga,λe=>by simp at e⟩,(n b4 d).trans r1,?_⟩⟩
 ·refine⟨U,.inr ⟨g,cap,cur,by rw[j];simp,z,?_,Xu,v,y,by simpa using h4⟩⟩;rw[n g a];exact m
 ·rw[heap_setCell_same w3 bg 0 _ _ _ g1];rfl
 ·exact((T.below.alloc T.below.size o).grown ka (by have:=T.below.size;simp;omega) (λk p=>(T.own.lt k p).1)).setCell u _
def aCT(a:Addr)(n j:Nat):(a.add n).add j=a.add (n+j):=by
 unfold Addr.add;by_cases u:n=0
 ·subst u;simp
 ·grind
def cZ(w0:World)(G:Nat->Nat)(l:List Tk)(m:Option Addr):Prop:=∀j k,l[j]?=some k->∃a p v z,m=some a∧w0.cell? (a.add (j*3))=some (encStr k.1)∧w0.cell? (a.add (j*3+1))=some (encStr k.2.1)∧w0.cell? (a.add (j*3+2))=some (.slice p v z)∧Rep w0 (Gh.base G) (.slice k.2.2.1 [] (Ar k.2.2.2)) (.slice p v z)
def cZ.load{G:Nat->Nat}{w:World}{j:Nat}{k:Tk}(h:cZ w0 G l ao)(o:Below w0.heap.size w0 w)(q:l[j]?=some k):∃a p v z,ao=some a∧w.cell? (a.add (j*3))=some (encStr k.1)∧w.cell? ⟨(a.add (j*3)).block,(a.add (j*3)).off+1,none⟩=some (encStr k.2.1)∧w.cell? ⟨(a.add (j*3)).block,(a.add (j*3)).off+2,none⟩=some (.slice p v z)∧Rep w0 (Gh.base G) (.slice k.2.2.1 [] (Ar k.2.2.2)) (.slice p v z):=by
 obtain⟨a,p,v,z,e,c1,m,t,n⟩:=h j k q;have u:∀i,i≠0->(⟨(a.add (j*3)).block,(a.add (j*3)).off+i,none⟩:Addr)=a.add (j*3+i):=λi hi=>by
  rw[←aCT];generalize a.add (j*3)=b;unfold Addr.add;rw[if_neg hi]
 refine⟨a,p,v,z,e,Eu o c1,?_,?_,n⟩
 ·rw[u 1 V];exact Eu o m
 ·rw[u 2 V];exact Eu o t
def Ln(l:List Tk)(t:Tk)(s:Bs):BU (t::l) s=if t.2.1=s∧t.1≠s then t.1::BU l s else BU l s:=by
 grind [BU]
def GG.alloc{w:World}{y:Value}{xs:List Bs}(T:GG w0 bg bs bt b4 l ao c w y xs)(o:Obj):GG w0 bg bs bt b4 l ao c (w.alloc o) y xs:=
 have hl:∀{b:Nat} {x:Obj},w.heap[b]?=some x->(w.alloc o).heap[b]?=some x:=λ{b x} h=>by
  rw[heap_alloc_old w o (Qw.1 h).1];exact h
 ⟨T.own.alloc o,hl T.g,hl T.s,hl T.t,T.nl,hl T.r,T.below.alloc T.below.size o⟩
def aQK(hg:w0.heap.size<=bg)(hl:l.length<=1000){G:Nat->Nat}(hT:cZ w0 G l ao)(name:Bs)(m:Bs->List Bs)(w:World)(vg:Value)(xs:List Bs)
  (b:∀t∈l,t.2.1=name->t.1≠name->∀w vg ys,GG w0 bg bs bt b4 l ao c w vg ys->ys.length+(m t.1).length<=1000->Calls Qd 267 #[encStr t.1,pB bg,pB bs,pB bt] w λe w'=>e= .returned (.tuple #[])∧∃n,GG w0 bg bs bt b4 l ao c w' n (ys++m t.1))
  (v:xs.length+1+((BU l name).flatMap m).length<=1000) (T:GG w0 bg bs bt b4 l ao c w vg xs):
  Calls Qd 267 #[encStr name,pB bg,pB bs,pB bt] w λe w'=>e= .returned (.tuple #[])∧∃n,GG w0 bg bs bt b4 l ao c w' n (xs++name::(BU l name).flatMap m):=by
 obtain⟨i0,hi,hx⟩:=Qx.1 gT;simp only[QU]at hx;obtain⟨sa,pa,xa⟩:=hx;have C1:w.cell? ⟨bg,0,none⟩=some vg:=by simp[World.cell?,T.g]
 have C3:w.frozen? ⟨bg,0,none⟩=false:=by simp[World.frozen?,T.g]
 have ja:xs.length<1000:=O
 have za:w0.heap.size<=w.heap.size:=T.below.size;have TT:Aside (GG w0 bg bs bt b4 l ao c w vg xs):=T;have HT:Aside (cZ w0 G l ao):=hT;have HS:Aside (∀t∈l,t.2.1=name->t.1≠name->∀w vg ys,GG w0 bg bs bt b4 l ao c w vg ys->ys.length+(m t.1).length<=1000->Calls Qd 267 #[encStr t.1,pB bg,pB bs,pB bt] w λe w'=>e= .returned (.tuple #[])∧∃n,GG w0 bg bs bt b4 l ao c w' n (ys++m t.1)):=b;have HL:Aside (xs.length+1+((BU l name).flatMap m).length<=1000):=v;have ca:=T.own;clear T v b hT
 go_enter func267,ntmps267
 go_wp2_with (first
  |(
   at_builtin;refine wpList_append_own _ rfl _ _ 23 rfl w0.heap.size 9 i0 (.string ByteArray.empty) 1 16 underlying23 hi sa pa xa rfl V _ _ _ rfl (ca.alloc _) ⟨w.heap.size,0,none⟩ 1 1 [encStr name] rfl rfl (cell_one_new _ _ _) (λx hx=>Yb) Xs O Xb ?_;intro v' w3 s f i
   obtain⟨g2,p,rfl,D1,D2,D3,T2⟩:=TT.out.app hg s f i;have T3:Aside (GG w0 bg bs bt b4 l ao c (w3.setCell ⟨bg,0,none⟩ (.slice (some ⟨g2,0,none⟩) (xs.length+1) p)) (.slice (some ⟨g2,0,none⟩) (xs.length+1) p) (xs++[name])):=T2;clear i s f T2))
 go_loopg [14] l.length (λg q wx=>∃(k:Nat)(ys:List Bs)(vy:Value),k+g=l.length∧q= .int .i64 k∧Aside (ys++(BU (l.drop k) name).flatMap m=xs++name::(BU l name).flatMap m)∧Aside (GG w0 bg bs bt b4 l ao c wx vy ys))
 case atStart=>exact⟨0,xs++[name],_,O,rfl,by show _=_;simp,T3⟩
 case round=>
  obtain⟨k,ys,vy,va,rfl,HI,TY⟩:=hrel;cases gk with
  |zero=>
   have ta:¬((k:Int)<(l.length:Int)):=O
   go_wp2_with fail
   go_end0
   refine⟨rfl,vy,?_⟩;have:=HI.out;rw[QZ O]at this;rw[←this];simpa[BU]using TY.out
  |succ g=>
   have ta:(k:Int)<(l.length:Int):=O
   obtain⟨t,hs⟩:∃t,l[k]?=some t:=⟨_,Qf O⟩;obtain⟨a,ro,rn,rc,rfl,c1,c2,c3,_⟩:=HT.out.load TY.out.below hs;have r:Aside (l.drop k=t::l.drop (k+1)):=iF hs;have qa:t∈l:=QT hs;by_cases u:t.2.1=name
   ·by_cases z:t.1=name
    ·have d:Aside (BU (l.drop k) name=BU (l.drop (k+1)) name):=by
      show _=_;rw[r.out,Ln,if_neg (λh=>h.2 z)]
     go_wp2_with fail
     go_roundg g
     case measure=>omega
     case rel=>exact⟨k+1,ys,vy,O,Xy,XZ,TY.out.alloc _⟩
    ·have d:Aside (BU (l.drop k) name=t.1::BU (l.drop (k+1)) name):=by
      show _=_;rw[r.out,Ln,if_pos ⟨u,z⟩]
     have db:∀o,Calls Qd 267 #[encStr t.1,pB bg,pB bs,pB bt] (wr.alloc o) λe w'=>e= .returned (.tuple #[])∧∃n,GG w0 bg bs bt b4 l (some a) c w' n (ys++m t.1):=λo=>
      HS.out t qa u z _ vy ys (TY.out.alloc o) (by
       have y:=congrArg ZM HI.out;rw[d.out]at y;have h4:=HL.out;simp only[ZJ,Qj,Qb]at y;omega)
     have j:(t.1==name)=false:=by simpa using z
     have F:∀o,(wr.alloc o).cell? ⟨bt,0,none⟩=some (.func (.func 267) #[] #[pB bg,pB bs,pB bt]):=λo=>by simp[World.cell?,(TY.out.alloc o).t]
     go_wp2_with (go_at_call 267;refine(db _).mono ?_;rintro e w' ⟨rfl,vz,TZ⟩)
     go_roundg g
     case measure=>omega
     case rel=>exact⟨k+1,ys++m t.1,vz,O,Xy,Yd,TZ⟩
   ·have d:Aside (BU (l.drop k) name=BU (l.drop (k+1)) name):=by
     show _=_;rw[r.out,Ln,if_neg (λh=>u h.1)]
    have ea:(t.2.1==name)=false:=by simpa using u
    go_wp2_with fail
    go_roundg g
    case measure=>omega
    case rel=>exact⟨k+1,ys,vy,O,Xy,XZ,TY.out.alloc _⟩
def GG.kept{w n:World}{y:Value}{xs:List Bs}{row:Option Nat}(T:GG w0 bg bs bt b4 l ao c w y xs)(h:w.grownBy n row)(i:∀(b:Nat) cs p,w.heap[b]?=some (.cells cs p (0,0))->p≠107->some b≠row)(d:∀k,row=some k->w0.heap.size<=k):GG w0 bg bs bt b4 l ao c n y xs:=by
 have hl:∀{b:Nat} {cs:Array Value} {T:TypeId},w.heap[b]?=some (.cells cs T (0,0))->T≠107->n.heap[b]?=some (.cells cs T (0,0)):=λ{b cs p} o q=>by
  rw[h.block b (Qw.1 o).1 (i b cs p o q)];exact o
 refine⟨T.own.kept h ?_,hl T.g V,hl T.s V,hl T.t V,T.nl,hl T.r V,T.below.grown h T.below.size d⟩;rcases T.own.2 with ⟨rfl,_⟩|⟨g,cap,cur,rfl,_,o,_⟩
 ·exact .inl rfl
 ·exact .inr (i g cur 9 o V)
def GG.sorted{w:World}{vg:Value}{xs:List Bs}(T:GG w0 bg bs bt b4 l ao c w vg xs)(q:xs≠[]):∃g cap,vg= .slice (some ⟨g,0,none⟩) xs.length cap∧g<w.heap.size∧Go.Sort.Holds encStr w g 0 xs.toArray∧
  ∀nn os,GG w0 bg bs bt b4 l ao c (grow (putRow encStr (Sort.ahead w nn) g 0 (xs.mergeSort λx y=>decide (x<=y)).toArray) os) vg (xs.mergeSort λx y=>decide (x<=y)):=by
 have ga:vg≠ .slice none 0 0:=λe=>q (T.nl.1 e)
 have a:(xs.mergeSort λx y=>decide (x<=y)).length=xs.length:=Qt xs;rcases T.own.2 with ⟨f,_⟩|⟨g,cap,cur,m,z,o,u,v,i,h4⟩
 ·exact absurd f ga
 refine⟨g,cap,m,(Qw.1 o).1,Go.holds_of_block o (by simpa using h4),λnn os=>?_⟩;have j:=Go.grownBy_sorted (w:=w) (g:=g) (n:=nn) (os:=os) (xs.mergeSort λx y=>decide (x<=y)).toArray;have hl:∀{b:Nat} {cs:Array Value} {T:TypeId},w.heap[b]?=some (.cells cs T (0,0))->T≠9->(grow (putRow encStr (Sort.ahead w nn) g 0 (xs.mergeSort λx y=>decide (x<=y)).toArray) os).heap[b]?=some (.cells cs T (0,0)):=λ{b cs Ty} p d=>by
  rw[j.block b (Qw.1 p).1 (λe=>by
   have:=MW T.own p d;rw[m]at this;exact this e)];exact p
 refine⟨?_,hl T.g V,hl T.s V,hl T.t V,⟨λe=>absurd e ga,λe=>?_⟩,hl T.r V,T.below.grown j T.below.size (λk hk=>by cases hk;exact z)⟩
 ·rw[m,a];exact Go.ownsRow_sorted a z o u v i
 ·grind
def aI6(p:w0.heap.size<=bg)(hl:l.length<=1000){G:Nat->Nat}(q:cZ w0 G l ao){r:Bs->Nat}(T:Hd l r):∀(f:Nat)(name:Bs),l.length<=r name+f->∀(w:World)(y:Value)(xs:List Bs),GG w0 bg bs bt b4 l ao c w y xs->xs.length+(DJ l f name).length<=1000->
  Calls Qd 267 #[encStr name,pB bg,pB bs,pB bt] w λe s=>e= .returned (.tuple #[])∧∃n,GG w0 bg bs bt b4 l ao c s n (xs++DJ l f name)
 |0,name,hr,w,y,xs,h,hlen=>by
  have g:BU l name=[]:=by
   cases hc:BU l name with
   |nil=>rfl
   |cons a t=>have:=Ia T (show a∈BU l name by rw[hc];exact Qp ..);omega
  have:=aQK p hl q name (λ_=>[]) w y xs (λt k u z=>by
   have i:=T.up t k;have o:=T.top t k;rw[u]at i;omega) (by rw[g];simpa[DJ]using hlen) h
  rw[g]at this;exact this
 |f+1,name,hr,w,y,xs,h,hlen=>by
  refine aQK p hl q name (DJ l f) w y xs (λt k u z w y ys v b=>?_) (by simp only[DJ,Qb]at hlen;omega) h;have i:=T.up t k;rw[u]at i;exact aI6 p hl q T f t.1 O w y ys v b
end
def aGu:(Tryz.prog.info? 107).map (λi=>(i.zero,i.size,i.bytes))=some (some (.agg #[.string ByteArray.empty,.string ByteArray.empty,.slice none 0 0]),3,56):=Z
def tkV(p:Tk×Value):List Value:=[encStr p.1.1,encStr p.1.2.1,p.2]
def tH(w:World)(a b c:Value)(t:TypeId):∀j u,[a,b,c][j]?=some u->(w.alloc (.cells #[a,b,c] t)).cell? ((⟨w.heap.size,0,none⟩:Addr).add j)=some u:=by
 intro j u q
 match j,q with
 |0,q=>simp at q;subst q;simp[Addr.add]
 |1,q=>simp at q;subst q;simp[Addr.add]
 |2,q=>simp at q;subst q;simp[Addr.add]
def R2{w i:World}{v q:Obj}(h:Below ((w.alloc v).alloc q).heap.size ((w.alloc v).alloc q) i):i.heap[w.heap.size]?=some v∧i.heap[w.heap.size+1]?=some q∧Below w.heap.size w i∧w.heap.size+2<=i.heap.size:=by
 have d:(w.alloc v).heap.size=w.heap.size+1:=Q0 _;have p:((w.alloc v).alloc q).heap.size=w.heap.size+2:=(Q0 _).trans (by rw[d]);have j:(w.alloc v).heap[w.heap.size]?=some v:=heap_alloc_new w v;have f:((w.alloc v).alloc q).heap[w.heap.size]?=some v:=by rw[heap_alloc_old _ _ O];exact j
 have n:((w.alloc v).alloc q).heap[w.heap.size+1]?=some q:=by have:=heap_alloc_new (w.alloc v) q;rwa [d]at this
 exact⟨by rw[h.block _ O];exact f,by rw[h.block _ O];exact n,(((Below.refl _ w).alloc (Qg _) _).alloc O _).trans (h.mono O),by have:=h.size;omega⟩
def DQ{w:World}{b:Nat}{v:Value}{T:TypeId}(h:w.heap[b]?=some (.cells #[v] T (0,0))):w.cell? ⟨b,0,none⟩=some v:=by simp[World.cell?,h]
def mK{w:World}{b:Nat}{v:Value}{T:TypeId}(h:w.heap[b]?=some (.cells #[v] T (0,0))):w.frozen? ⟨b,0,none⟩=false:=by simp[World.frozen?,h]
def aQM(w:World)(l:List Tk)(m:Option Addr)(c:Nat)(name:Bs)(q:Int)
  (z:∀r,Below w.heap.size w r->Calls Qd 40 #[.agg #[.slice m l.length c],encStr name] r λe s=>e= .returned (.tuple #[.int .i64 q,.bool false])∧Below r.heap.size r s):
  Calls Qd 214 #[.agg #[.slice m l.length c],encStr name] w λe s=>e= .returned (.tuple #[.agg #[.slice m l.length c],.slice none 0 0,.int .i64 6])∧Below w.heap.size w s:=by
 go_enter func214,ntmps214
 go_wp2_with fail
 refine(z _ (((Below.refl _ w).alloc (Qg _) _).alloc U _)).mono ?_;rintro e i ⟨rfl,b⟩;obtain⟨n,t,a,y⟩:=R2 b;have j:i.cell? ⟨w.heap.size,0,none⟩=some (.slice m l.length c):=by simp[World.cell?,n]
 have x:i.cell? ⟨w.heap.size+1,0,none⟩=some (.slice none 0 0):=by simp[World.cell?,t]
 have k:i.frozen? ⟨w.heap.size+1,0,none⟩=false:=by simp[World.frozen?,t]
 have p:∀v,(i.setCell ⟨w.heap.size+1,0,none⟩ v).cell? ⟨w.heap.size+1,0,none⟩=some v:=λv=>World.cell?_setCell_same' _ _ _ (by rw[x];rfl)
 go_wp2_with fail
 refine bodyPost_ret (v:= .tuple #[.agg #[.slice m l.length c],.slice none 0 0,.int .i64 6]) (by simp[results,results214,go_sem,p]) rfl ⟨rfl,a.setCell U _⟩
def Cv(l:List Tk)(gone:List Bs):List Tk:=l.filter λt=>!FN gone t.1
def Pt(t:Tk)(l:List Tk)(gone:List Bs):Cv (t::l) gone=if FN gone t.1=true then Cv l gone else t::Cv l gone:=by
 grind [Cv,FN]
def NI{w:World}{B e j n b:Nat}{v u:Value}{xs:List Value}(h:w.ownsRow B e j v n xs)(x:some b≠v.ownBlock):(w.setCell ⟨b,0,none⟩ u).ownsRow B e j v n xs:=by
 refine⟨h.1,?_⟩;rcases h.2 with h|⟨g,cap,cur,rfl,q,z,i⟩
 ·exact .inl h
 ·refine .inr ⟨g,cap,cur,rfl,q,?_,i⟩;rw[heap_setCell_other _ _ _ _ (λe=>x (congrArg some (show b=g from e.symm)))];exact z
def eP{w i:World}{l:List Tk}{m:Option Addr}{c:Nat}(n:i.heap[w.heap.size]?=some (.cells #[.slice m l.length c] 31 (0,0)))(t:i.heap[w.heap.size+1]?=some (.cells #[.slice none 0 0] 31 (0,0)))(a:Below w.heap.size w i)(y:w.heap.size+2<=i.heap.size):
  GG w i.heap.size w.heap.size (i.heap.size+1) (w.heap.size+1) l m c ((i.alloc (Obj.cells #[Value.slice none 0 0] 23)).alloc (Obj.cells #[Value.func (Fn.func 267) #[] #[pB i.heap.size,pB w.heap.size,pB (i.heap.size+1)]] 325)) (.slice none 0 0) []:=by
 have d:(i.alloc (Obj.cells #[Value.slice none 0 0] 23)).heap.size=i.heap.size+1:=Q0 _;have p:∀o {k:Nat} {x:Obj},i.heap[k]?=some x->((i.alloc (Obj.cells #[Value.slice none 0 0] 23)).alloc o).heap[k]?=some x:=λo k x h=>by
  have g:=(Qw.1 h).1;rw[heap_alloc_old _ _ O,heap_alloc_old _ _ g];exact h
 refine⟨World.ownsRow_nil _ _ _ _,?_,p _ n,?_,⟨λ_=>rfl,λ_=>rfl⟩,p _ t,(a.alloc O _).alloc O _⟩
 ·rw[heap_alloc_old _ _ O];exact heap_alloc_new _ _
 ·have:=heap_alloc_new (i.alloc (Obj.cells #[Value.slice none 0 0] 23)) (Obj.cells #[Value.func (Fn.func 267) #[] #[pB i.heap.size,pB w.heap.size,pB (i.heap.size+1)]] 325)
  rwa [d]at this
def aQL(w:World)(G:Nat->Nat)(l:List Tk)(ao:Option Addr)(c:Nat)(name:Bs)(q:Int)(r:Bs->Nat)(hl:l.length<=900)(hT:cZ w G l ao)(T:Hd l r)
  (aa:∀wx,Below w.heap.size w wx->Calls Qd 40 #[.agg #[.slice ao l.length c],encStr name] wx λe w'=>e= .returned (.tuple #[.int .i64 q,.bool true])∧Below wx.heap.size wx w')
  (i:∀(wx:World)(v:Value)(ys:List Bs)(s:Bs),wx.ownsRow w.heap.size 9 1 v ys.length (ys.map encStr)->ys≠[]->ys.length<=1000->(v= .slice none 0 0↔ys=[])->Calls Qd 269 #[v,encStr s] wx λe w'=>e= .returned (.bool (FN ys s))∧Below wx.heap.size wx w'):
  Calls Qd 214 #[.agg #[.slice ao l.length c],encStr name] w λe w'=>∃gv lv ps,e= .returned (.tuple #[.agg #[lv],gv,.int .i64 0])∧Below w.heap.size w w'∧
   w'.ownsRow w.heap.size 9 1 gv (DJ l l.length name).length (((DJ l l.length name).mergeSort λx y=>decide (x<=y)).map encStr)∧gv≠ .slice none 0 0∧
   w'.ownsRow w.heap.size 107 3 lv ps.length (ps.flatMap tkV)∧(lv= .slice none 0 0↔ps=[])∧ps.map (·.1)=Cv l ((DJ l l.length name).mergeSort λx y=>decide (x<=y))∧
   ∀p∈ps,Rep w (Gh.base G) (.slice p.1.2.2.1 [] (Ar p.1.2.2.2)) p.2:=by
 obtain⟨i0,hi,hx⟩:=Qx.1 aGu;simp only[QU]at hx;obtain⟨sa,pa,xa⟩:=hx;have ia:=mW T l.length name;have wa:DJ l l.length name≠[]:=by cases l.length<;>simp[DJ]
 go_enter func214,ntmps214
 go_wp2_with fail
 refine(aa _ (((Below.refl _ w).alloc (Qg _) _).alloc U _)).mono ?_;rintro e w2 ⟨rfl,la⟩;obtain⟨x1,x2,x3,x4⟩:=R2 la;clear la;have D0:((w2.alloc (Obj.cells #[Value.slice none 0 0] 23)).alloc (Obj.cells #[Value.nilFunc] 325)).heap[w2.heap.size+1]?=some (Obj.cells #[Value.nilFunc] 325):=by
  have:=heap_alloc_new (w2.alloc (Obj.cells #[Value.slice none 0 0] 23)) (Obj.cells #[Value.nilFunc] 325)
  rwa [show(w2.alloc (Obj.cells #[Value.slice none 0 0] 23)).heap.size=w2.heap.size+1 from Q0 _]at this
 have D1:((w2.alloc (Obj.cells #[Value.slice none 0 0] 23)).alloc (Obj.cells #[Value.nilFunc] 325)).cell? ⟨w2.heap.size+1,0,none⟩=some Value.nilFunc:=DQ D0;have D2:((w2.alloc (Obj.cells #[Value.slice none 0 0] 23)).alloc (Obj.cells #[Value.nilFunc] 325)).frozen? ⟨w2.heap.size+1,0,none⟩=false:=mK D0
 go_wp2_with fail
 have T0:=eP x1 x2 x3 x4;refine(aI6 O O hT T l.length name O _ _ _ T0 Xb).mono ?_;rintro e w3 ⟨rfl,v3,T3⟩;clear T0 D0 D1 D2;rw[QG]at T3;generalize hD:DJ l l.length name=ds at *;obtain⟨g,cap,rfl,z,hH,T4⟩:=T3.sorted wa;have E1:w3.cell? ⟨w2.heap.size,0,none⟩=some (.slice (some ⟨g,0,none⟩) ds.length cap):=DQ T3.g;have m:Calls Qd 268 #[.slice (some ⟨g,0,none⟩) ds.length cap] w3 λe w'=>e= .returned (.tuple #[])∧∃n os,w'=grow (putRow encStr (Sort.ahead w3 n) g 0 (ds.mergeSort λx y=>decide (x<=y)).toArray) os:=Any.slices_Sort_string aU g 0 cap ds w3 hH z O
 go_wp2_with fail
 refine m.mono ?_;rintro e w4 ⟨rfl,nn,os,bb⟩;replace T4:=T4 nn os;rw[←bb]at T4;clear m bb T3 hH E1;have ka:(ds.mergeSort λx y=>decide (x<=y)).length=ds.length:=Qt ds;have ga:(ds.mergeSort λx y=>decide (x<=y))≠[]:=λe=>by rw[e]at ka;exact wa (Zd ka.symm)
 generalize ya:(ds.mergeSort λx y=>decide (x<=y))=ss at *;have E2:w4.cell? ⟨w.heap.size,0,none⟩=some (.slice ao l.length c):=DQ T4.s;have HT:Aside (cZ w G l ao):=hT;have H2:Aside (∀(wx:World)(v:Value)(ys:List Bs)(s:Bs),wx.ownsRow w.heap.size 9 1 v ys.length (ys.map encStr)->ys≠[]->ys.length<=1000->(v= .slice none 0 0↔ys=[])->Calls Qd 269 #[v,encStr s] wx λe w'=>e= .returned (.bool (FN ys s))∧Below wx.heap.size wx w'):=i;clear hT i aa;generalize ra:ds.length=n at *
 go_wp2_with fail
 go_loopg [11,32] l.length (λgg ea db wx=>∃(k:Nat)(ps:List (Tk×Value)),k+gg=l.length∧db= .int .i64 k∧ps.length<=k∧Aside (ps.map (·.1)++Cv (l.drop k) ss=Cv l ss)∧
  wx.ownsRow w.heap.size 107 3 ea ps.length (ps.flatMap tkV)∧Aside (ea= .slice none 0 0↔ps=[])∧Aside (∀p∈ps,Rep w (Gh.base G) (.slice p.1.2.2.1 [] (Ar p.1.2.2.2)) p.2)∧
  Aside (GG w w2.heap.size w.heap.size (w2.heap.size+1) (w.heap.size+1) l ao c wx (.slice (some ⟨g,0,none⟩) n cap) ss))
 case atStart=>exact⟨0,[],O,rfl,Qg _,rfl,World.ownsRow_nil _ _ _ _,ZX (λ_=>rfl) (λ_=>rfl),(by show ∀p∈([]:List (Tk×Value)),_;intro p hp;cases hp),T4⟩
 case round=>
  obtain⟨k,ps,va,rfl,qa,HI,ca,ua,HR,TY⟩:=hrel;have za:=TY.out.below.size;cases gk with
  |zero=>
   have ta:¬((k:Int)<(l.length:Int)):=O
   have G1:wr.cell? ⟨w2.heap.size,0,none⟩=some (.slice (some ⟨g,0,none⟩) n cap):=DQ TY.out.g;have G2:wr.cell? ⟨w.heap.size+1,0,none⟩=some (.slice none 0 0):=DQ TY.out.r;have G3:wr.frozen? ⟨w.heap.size+1,0,none⟩=false:=mK TY.out.r;have G0:w.heap.size+1≠w2.heap.size:=O
   have G4:∀v,(wr.setCell ⟨w.heap.size+1,0,none⟩ v).cell? ⟨w2.heap.size,0,none⟩=some (.slice (some ⟨g,0,none⟩) n cap):=λv=>(World.cell?_setCell_other _ _ _ _ (λe=>G0 (congrArg Addr.block e))).trans G1
   have G5:∀v,(wr.setCell ⟨w.heap.size+1,0,none⟩ v).cell? ⟨w.heap.size+1,0,none⟩=some v:=λv=>World.cell?_setCell_same' _ _ _ (by rw[G2];rfl)
   obtain⟨lo,ln,lc,rfl⟩:∃lo ln lc,u11= .slice lo ln lc:=by
    rcases ca.2 with ⟨h,_⟩|⟨_,_,_,h,_⟩<;>exact⟨_,_,_,h⟩
   go_wp2_with fail
   go_region
   all_goals (
    go_wp2_with fail
    have fa:=NI (u:= .slice lo ln lc) ca (MW ca TY.out.r V);have ja:=NI (u:= .slice lo ln lc) TY.out.own (MW TY.out.own TY.out.r V);have ma:=TY.out.below.setCell (p:=⟨w.heap.size+1,0,none⟩) U (.slice lo ln lc);refine bodyPost_ret (v:= .tuple #[.agg #[.slice lo ln lc],.slice (some ⟨g,0,none⟩) n cap,.int .i64 0]) (by simp[results,results214,go_sem,G5]) rfl ⟨_,_,ps,rfl,⟨ma.os,ma.tape,ma.output,ma.size,ma.block⟩,?_,U,fa,ua.out,?_,HR.out⟩
    ·rw[ka]at ja;rw[hD,ya,ra];exact ja
    ·have:=HI.out;rw[QZ O]at this;rw[hD,ya,←this];simp[Cv])
  |succ gg=>
   have ta:(k:Int)<(l.length:Int):=O
   obtain⟨t,hs⟩:∃t,l[k]?=some t:=⟨_,Qf O⟩;obtain⟨a,ro,rn,rc,rfl,c1,c2,c3,c4⟩:=HT.out.load TY.out.below hs;have hd:Aside (l.drop k=t::l.drop (k+1)):=iF hs;have ha:∀o,Calls Qd 269 #[.slice (some ⟨g,0,none⟩) n cap,encStr t.1] (wr.alloc o) λe w'=>e= .returned (.bool (FN ss t.1))∧Below (wr.alloc o).heap.size (wr.alloc o) w':=λo=>
    H2.out _ _ ss t.1 (TY.out.alloc o).own ga O ⟨λe=>by simp at e,λe=>absurd e ga⟩
   have E3:∀o,(wr.alloc o).cell? ⟨w2.heap.size,0,none⟩=some (.slice (some ⟨g,0,none⟩) n cap):=λo=>DQ (TY.out.alloc o).g
   have C4:Aside (Rep w (Gh.base G) (.slice t.2.2.1 [] (Ar t.2.2.2)) (.slice ro rn rc)):=c4;clear c4 hs
   go_wp2_with fail
   refine(ha _).mono ?_;rintro e w5 ⟨rfl,ja⟩;generalize ho:Obj.cells #[encStr t.1,encStr t.2.1,.slice ro rn rc] 107 (0,0)=ob at *;have na:=ja.size;have ab:(wr.alloc ob).heap.size=wr.heap.size+1:=Q0 _;have T5:Aside (GG w w2.heap.size w.heap.size (w2.heap.size+1) (w.heap.size+1) l (some a) c w5 (.slice (some ⟨g,0,none⟩) n cap) ss):=
    (TY.out.alloc ob).kept (BV ja (Qg _) none na) (λ_ _ _ _ _ h=>Xc) (λ_ h=>Xc)
   have f:=(ca.alloc ob).kept (BV ja (Qg _) none na) (fJ _);have F0:w5.heap[wr.heap.size]?=some ob:=by rw[ja.block _ O];exact heap_alloc_new _ _
   subst ho;have F1:w5.cell? ⟨wr.heap.size,0,none⟩=some (encStr t.1):=X9
   have F2:w5.cell? ⟨wr.heap.size,1,none⟩=some (encStr t.2.1):=X9
   have F3:w5.cell? ⟨wr.heap.size,2,none⟩=some (.slice ro rn rc):=X9
   clear ha E3 ja F0;cases hb:FN ss t.1 with
   |true=>
    have d:Aside (Cv (l.drop k) ss=Cv (l.drop (k+1)) ss):=by show _=_;rw[hd.out,Pt,if_pos hb]
    clear hb
    go_wp2_with fail
    go_roundg gg
    case measure=>omega
    case rel=>exact⟨k+1,ps,O,Xy,O,XZ,f,ua,HR,T5⟩
   |false=>
    have d:Aside (Cv (l.drop k) ss=t::Cv (l.drop (k+1)) ss):=by show _=_;rw[hd.out,Pt,if_neg (by rw[hb];decide)]
    clear hb
    go_wp2_with (at_builtin;refine wpList_append_own _ rfl _ _ 29 rfl w.heap.size 107 i0 (.agg #[.string ByteArray.empty,.string ByteArray.empty,.slice none 0 0]) 3 56 underlying29 hi sa pa xa rfl V _ _ _ rfl (f.alloc _) ⟨w5.heap.size,0,none⟩ 1 1 [encStr t.1,encStr t.2.1,.slice ro rn rc] rfl rfl (tH _ _ _ _ _) (λx hx=>by simp at hx;rcases hx with rfl|rfl|rfl<;>rfl) Xs O Xb ?_;intro v' w6 da ba oa)
    have cb:(w5.alloc (Obj.cells #[encStr t.1,encStr t.2.1,.slice ro rn rc] 107 (0,0))).heap.size=w5.heap.size+1:=Q0 _;have T6:Aside (GG w w2.heap.size w.heap.size (w2.heap.size+1) (w.heap.size+1) l (some a) c w6 (.slice (some ⟨g,0,none⟩) n cap) ss):=
     (T5.out.alloc _).kept ba (λb cs Ty hb hT=>MW (f.alloc _) hb hT) (λj hj=>(f.lt j hj).1)
    go_roundg gg
    case measure=>omega
    case rel=>exact⟨k+1,ps++[(t,.slice ro rn rc)],O,Xy,Xb,Yd,by simpa[tkV]using da,by show _↔_;rw[oa];simp,(by
      show ∀p∈_,_;intro p hp;rcases QQ.1 hp with h|h
      ·exact HR.out p h
      ·rw[Zi.1 h];exact C4.out),T6⟩
def FA{w q:World}{G:Nat->Nat}{d:D}{v:Value}(h:Rep w (Gh.base G) d v)(y:d.calm=true)(n:∀b,w.heap.size<=b->G b=0)(o:Below w.heap.size w q){G':Nat->Nat}(i:∀b,b<w.heap.size->G b<=G' b):Rep q (Gh.base G') d v:=
 h.calm_to y (λp t=>by
  have r:p.block<w.heap.size:=by
   grind [Gh.base]
  exact o.cell r) (λb=>by
  rcases ZV b w.heap.size with h|h
  ·exact i b h
  ·show G b<=_;rw[n b h];exact Qi _)
def pU{w:World}{G:Nat->Nat}{nl:Bool}{t:Id}{l:List Tk}{v:Value}(h:Rep w (Gh.base G) (.slice nl t (AG l)) v):∃m c,v= .slice m l.length c∧cZ w G l m:=by
 rcases h.slice_inv with ⟨_,f,rfl⟩|⟨_,ad,n,c,sz,vv,rfl,o,y,x,r4,r5,r6,r7,r8,r9⟩
 ·have:l=[]:=by cases l with|nil=>rfl|cons=>cases f
  subst this;exact⟨none,0,rfl,λj s h=>Xd⟩
 ·rw[show(AG l).length=l.length from QH ..]at o;subst o;refine⟨some ad,c,rfl,λj k q=>?_⟩;have r:j<l.length:=(Qy.1 q).1;have d:sz=3:=(x (O0 k) (Qv.2 ⟨k,QT q,rfl⟩)).symm;subst d;have g:l[j]=k:=(Qy.1 q).2;have p:∀i,i<3->(flat (AG l))[j*3+i]?=(O0 k).cells[i]?:=λi hi=>by
   rw[D_ x (by simpa[AG]using r) hi];simp[AG,g]
  have b:=(r6 _ _ ((p 0 V).trans rfl)).str_inv;have u:=(r6 _ _ ((p 1 V).trans rfl)).str_inv;have a:=r6 _ _ ((p 2 V).trans rfl);obtain⟨e,z,ev,_⟩:=a.len_slice;rw[ev]at a;exact⟨ad,e,_,z,rfl,by rw[r4 _ O];exact congrArg some b,by rw[r4 _ O];exact congrArg some u,by rw[r4 _ O,ev],a⟩
def PI{w:World}{g:Gh}:∀(ps:List (Tk×Value))(_:∀p∈ps,Rep w g (.slice p.1.2.2.1 [] (Ar p.1.2.2.2)) p.2)(j:Nat)(d:D),(flat (AG (ps.map (·.1))))[j]?=some d->∃v,(ps.flatMap tkV)[j]?=some v∧v.oneCell'=true∧Rep w g d v
 |[],_,j,d,h=>by simp[AG,flat]at h
 |p::ps,hp,j,d,h=>by
  have e:flat (AG ((p::ps).map (·.1)))=[D.str p.1.1,D.str p.1.2.1,D.slice p.1.2.2.1 [] (Ar p.1.2.2.2)]++flat (AG (ps.map (·.1))):=rfl;rw[e]at h;rw[ZJ];have i:=hp p (Qp ..)
  match j,h with
  |0,h=>cases h;exact⟨_,rfl,rfl,.str _⟩
  |1,h=>cases h;exact⟨_,rfl,rfl,.str _⟩
  |2,h=>
   cases h;refine⟨p.2,rfl,?_,i⟩;obtain⟨_,_,ev,_⟩:=i.len_slice;rw[ev];rfl
  |j+3,h=>exact PI ps (λq s=>hp q (QF _ s)) j d h
def aFM{w:World}{B e:Nat}{t:Value}{ps:List (Tk×Value)}{g:Gh}(h:w.ownsRow B e 3 t ps.length (ps.flatMap tkV))(k:t= .slice none 0 0↔ps=[])(y:∀p∈ps,Rep w g (.slice p.1.2.2.1 [] (Ar p.1.2.2.2)) p.2)(i:∀b,t.ownBlock=some b->ps.length*3<=g.G b):Rep w g (.slice (decide (ps.map (·.1)=[])) [] (AG (ps.map (·.1)))) t:=by
 rcases h.2 with ⟨f,hz⟩|⟨b,c,cur,m,_,_,u,_⟩
 ·have:=k.1 f;subst this;subst f;exact .nils _
 ·have x:ps≠[]:=λe=>by rw[k.2 e]at m;cases m
  have o:=i b (by rw[m];rfl);rw[decide_eq_false (by simpa using x)];have ja:=h;subst m;refine .slice [] _ ⟨b,0,none⟩ ps.length c 3 (λj=>(ps.flatMap tkV).getD j .nilFunc) (by simp[AG]) u (λd r=>?_) (λj q=>?_) (λj q=>?_) (λj d r=>?_) (λ_=>Xa) (λh=>absurd rfl h) (λd r=>?_)
  ·obtain⟨s,_,rfl⟩:=Qv.1 r;rfl
  ·have ra:j<(ps.flatMap tkV).length:=by rw[h.1];exact q
   exact ja.cells rfl j _ (by simp only[QB];rw[Qf ra];rfl)
  ·have z:j<(flat (AG (ps.map (·.1)))).length:=by
    rw[B6 (sz:=3) (λd r=>by obtain⟨s,_,rfl⟩:=Qv.1 r;rfl)];simpa[AG]using q
   obtain⟨v,n,l,_⟩:=PI ps y j _ (Qf z);simp only[QB,n,Q6];exact l
  ·obtain⟨v,n,_,a⟩:=PI ps y j d r;simp only[QB,n,Q6];exact a
  ·obtain⟨s,_,rfl⟩:=Qv.1 r;rfl
def Sk(s z:Bs):(CO s z).length<=s.length:=by
 grind [CO]
def eW(l:List Bs):List Bs:=l.mergeSort λx y=>decide (x<=y)
def nL(z:Bs)(l:List Bs):List Bs:=Lib.compact (eW (FL z l))
def Wh(p:Bs×Bool×List Bs):List D:=[.str p.1,.slice p.2.1 [] (strsD p.2.2)]
theorem pX{a b:List Bs}(h:strsD a=strsD b):a=b:=by
 unfold strsD at h;exact List.map_inj_right (λx y e=>by cases e;rfl) |>.1 h
def qU(x y)(h:Wh x=Wh y):x=y:=by
 grind [Wh,pX]
def RU:List D->Option D:=FX Wh (λp=>p.2.2.length<=2000∧∀s∈p.2.2,s.length<=1000000) λp=> .slice (decide (FL p.1 p.2.2=[])) [] (strsD (nL p.1 p.2.2))
def aIn{z:Bs}{nl:Bool}{l:List Bs}(h:l.length<=2000)(g:∀s∈l,s.length<=1000000):RU [.str z,.slice nl [] (strsD l)]=some (.slice (decide (FL z l=[])) [] (strsD (nL z l))):=
 BO (mk:=Wh) (a:=(z,nl,l)) qU ⟨h,g⟩
def aSa:Kq RU 217:=by
 refine FJ ⟨_,func217,Z,Z⟩ λds r q vs w G hl u n=>⟨?_,?_⟩
 ·obtain⟨p,_,_,rfl⟩:=CV q;rfl
 ·obtain⟨⟨z,nl,l⟩,⟨j,hs⟩,rfl,rfl⟩:=CV q;simp only at j hs
  match vs,hl with
  |[v0,v1],_=>
   have e0:=(u 0 _ v0 rfl rfl).str_inv;subst e0;obtain⟨ao,c,rfl,x⟩:=eR (u 1 _ v1 rfl rfl);refine(aVy w z l ao c j x (λs a w=>?_)).mono ?_
   ·refine(HZ aTt (aHT s z (hs s a) (Sk s z)) rfl w).mono ?_;rintro e t ⟨v,y,rfl,m,hR⟩;refine⟨?_,m⟩;obtain⟨us,rfl,i,k⟩:=hR.tup_inv
    match us,i with
    |[u0,u1],_=>
     rw[(k 0 _ u0 rfl rfl).str_inv,(k 1 _ u1 rfl rfl).bool_inv]
   ·rintro e t ⟨v,rfl,m,⟨rfl,hk⟩|⟨hk,g,cap,rfl,o,f,d⟩⟩
    ·refine⟨_,G,rfl,m,λb h=>n b (QE m.size h),λ_ _=>rfl,?_⟩;have e:nL z l=[]:=by unfold nL eW;rw[hk,List.mergeSort_nil];rfl
     rw[e,decide_eq_true hk];exact .nils _
    ·refine⟨_,λb=>if b<w.heap.size then G b else if b=g then(nL z l).length else 0,rfl,m,λb h=>?_,λb h=>if_pos h,?_⟩
     ·grind
     ·rw[decide_eq_false hk];exact LW d (by simp only[Gh.base];rw[if_neg O,if_pos trivial];exact Qg _)
def Cb(l:List Tk)(s:Bs):List Bs:=eW (DJ l l.length s)
def Sx(p:Bool×List Tk×Bs):List D:=[.agg [.slice p.1 [] (AG p.2.1)],.str p.2.2]
def Sw(x y)(h:Sx x=Sx y):x=y:=by
 grind [Sx,Vy]
def HY(p:Bool×List Tk×Bs):D:=if A0 p.2.1 p.2.2=false then .tup [.agg [.slice p.1 [] (AG p.2.1)],.slice true [] (strsD []),.int .i64 6]
 else .tup [.agg [.slice (decide (Cv p.2.1 (Cb p.2.1 p.2.2)=[])) [] (AG (Cv p.2.1 (Cb p.2.1 p.2.2)))],.slice false [] (strsD (Cb p.2.1 p.2.2)),.int .i64 0]
def Rk:List D->Option D:=FX Sx (λp=>p.2.1.length<=900∧∃r,Hd p.2.1 r) HY
def aIo{nl:Bool}{l:List Tk}{s:Bs}{r:Bs->Nat}(h:l.length<=900)(i:Hd l r)(k:A0 l s=false):Rk [.agg [.slice nl [] (AG l)],.str s]=some (.tup [.agg [.slice nl [] (AG l)],.slice true [] (strsD []),.int .i64 6]):=by
 have:=BO (mk:=Sx) (ok:=λp=>p.2.1.length<=900∧∃r,Hd p.2.1 r) (res:=HY) (a:=(nl,l,s)) Sw ⟨h,r,i⟩;rw[show HY (nl,l,s)=_ from if_pos k]at this;exact this
def aEk{nl:Bool}{l:List Tk}{s:Bs}{r:Bs->Nat}(h:l.length<=900)(i:Hd l r)(k:A0 l s=true):Rk [.agg [.slice nl [] (AG l)],.str s]=some (.tup [.agg [.slice (decide (Cv l (Cb l s)=[])) [] (AG (Cv l (Cb l s)))],.slice false [] (strsD (Cb l s)),.int .i64 0]):=by
 have:=BO (mk:=Sx) (ok:=λp=>p.2.1.length<=900∧∃r,Hd p.2.1 r) (res:=HY) (a:=(nl,l,s)) Sw ⟨h,r,i⟩;rw[show HY (nl,l,s)=_ from if_neg (by rw[k];decide)]at this;exact this
def aSb:Kq Rk 214:=by
 refine FJ ⟨_,func214,Z,Z⟩ λds r hF vs w G hl da ca=>⟨?_,?_⟩
 ·obtain⟨p,_,_,rfl⟩:=CV hF;unfold HY;split<;>rfl
 ·obtain⟨⟨nl,l,s⟩,⟨ba,rk,hT⟩,rfl,rfl⟩:=CV hF;simp only at ba hT
  match vs,hl with
  |[v0,v1],_=>
   have e1:=(da 1 _ v1 rfl rfl).str_inv;subst e1;have pa:=da 0 _ v0 rfl rfl;obtain⟨us,rfl,oa,z,hu⟩:=aJ pa
   match us,oa with
   |[u0],_=>
    have ra:=hu 0 _ u0 rfl rfl;obtain⟨ao,c,rfl,la⟩:=pU ra;have aa:∀wx,Below w.heap.size w wx->Calls Qd 40 #[.agg #[.slice ao l.length c],encStr s] wx λe w'=>e= .returned (.tuple #[.int .i64 (IQ l s:Int),.bool (A0 l s)])∧Below wx.heap.size wx w':=λwx hb=>by
     refine(DV (vs:=[.agg #[.slice ao l.length c],encStr s]) (G:=G) yX (Ny (nl:=nl) (t:=[]) (l:=l) (s:=s) O) rfl rfl rfl (λj d v hd hv=>?_) (λb h=>ca b (QE hb.size h))).mono ?_
     ·match j,hd,hv with
      |0,hd,hv=>cases hd;cases hv;exact FA pa rfl ca hb (λ_ _=>Qg _)
      |1,hd,hv=>cases hd;cases hv;exact .str _
     ·rintro e w' ⟨v,g',rfl,ta,hR⟩;refine⟨?_,ta⟩;obtain⟨us,rfl,oa,hu⟩:=hR.tup_inv
      match us,oa with
      |[u0,u1],_=>rw[(hu 0 _ u0 rfl rfl).int_inv,(hu 1 _ u1 rfl rfl).bool_inv]
    cases hf:A0 l s with
    |false=>
     rw[hf]at aa;refine(aQM w l ao c s _ aa).mono ?_;rintro e w' ⟨rfl,hb⟩;refine⟨_,G,rfl,hb,λb h=>ca b (QE hb.size h),λ_ _=>rfl,?_⟩;rw[show HY (nl,l,s)=_ from if_pos hf];refine .tup _ [_,_,_] rfl (λj d v hd hv=>?_)
     match j,hd,hv with
     |0,hd,hv=>cases hd;cases hv;exact FA pa rfl ca hb (λ_ _=>Qg _)
     |1,hd,hv=>cases hd;cases hv;exact .nils _
     |2,hd,hv=>cases hd;cases hv;exact .int _ _
    |true=>
     rw[hf]at aa;have i:∀(wx:World)(v:Value)(ys:List Bs)(n:Bs),wx.ownsRow w.heap.size 9 1 v ys.length (ys.map encStr)->ys≠[]->ys.length<=1000->(v= .slice none 0 0↔ys=[])->Calls Qd 269 #[v,encStr n] wx λe w'=>e= .returned (.bool (FN ys n))∧Below wx.heap.size wx w':=λwx v ys n ho ga sa ma=>by
      obtain⟨g,cap,rfl,o,f,_⟩:=Lib.holds_of_ownsRow ho (λe=>ga (ma.1 e));refine(DV (vs:=[.slice (some ⟨g,0,none⟩) ys.length cap,encStr n]) (G:=λb=>if b=g then ys.length else 0) aTu (aHU (nl:=false) (l:=ys) n O) rfl rfl rfl (λj d v hd hv=>?_) (λb h=>if_neg O)).mono ?_
      ·match j,hd,hv with
       |0,hd,hv=>cases hd;cases hv;exact LW ho (by simp[Gh.base])
       |1,hd,hv=>cases hd;cases hv;exact .str _
      ·rintro e w' ⟨v,g',rfl,ta,hR⟩;exact⟨by rw[hR.bool_inv],ta⟩
     refine(aQL w G l ao c s _ rk ba la hT aa i).mono ?_;rintro e w' ⟨gv,lv,ps,rfl,hb,a,ua,q,y,na,x⟩;have ka:(Cb l s).length=(DJ l l.length s).length:=Qt _;rw[←ka]at a;obtain⟨gb,cap,rfl,o,f,_⟩:=Lib.holds_of_ownsRow a ua;have ea:=q.lt;rw[show HY (nl,l,s)=_ from if_neg (show ¬A0 l s=false by rw[hf];decide)];have ga:lv.ownBlock≠some gb:=λe=>by
      rcases a.2 with ⟨h0,_⟩|⟨g',m,cur,hv,_,hh,_⟩
      ·cases h0
      ·grind [MW]
     have ja:=hb.size
     let G':Nat->Nat:=λb=>if b<w.heap.size then G b else if b=gb then(Cb l s).length else if some b=lv.ownBlock then ps.length*3 else 0
     have u:∀b,b<w.heap.size->G' b=G b:=λb h=>if_pos h
     refine⟨_,G',rfl,hb,λb h=>?_,u,?_⟩
     ·grind
     ·refine .tup _ [_,_,_] rfl (λj d v hd hv=>?_)
      match j,hd,hv with
      |0,hd,hv=>
       cases hd;cases hv;refine .agg _ [lv] rfl (λv hv=>?_) (λj d v hd hv=>?_)
       ·rw[Zi.1 hv];rcases q.2 with ⟨h,_⟩|⟨_,_,_,h,_⟩<;>rw[h]<;>rfl
       ·match j,hd,hv with
        |0,hd,hv=>
         cases hd;cases hv;have:=aFM (g:=Gh.base G') q y (λp hp=>FA (x p hp) rfl ca hb (λb h=>Nat.le_of_eq (u b h).symm)) (λb k=>by
          show _<=(if _ then _ else _);rw[if_neg (by have:=(ea b k).1;omega),if_neg (λe=>ga (by rw[k,e])),if_pos k.symm];exact Qg _)
         rw[na]at this;exact this
      |1,hd,hv=>
       cases hd;cases hv;exact LW a (by
        show _<=(if _ then _ else _);rw[if_neg O,if_pos rfl];exact Qg _)
      |2,hd,hv=>cases hd;cases hv;exact .int _ _
end Go.Vd
namespace Go.Vd
open Go.Proofs Go.RowKit
def aBG:=y2 f256 [] []
def aBO:=y2 f104 [] []
def aBK:=y2 f172 [] []
def aBJ:=y2 f202 [] []
end Go.Vd
namespace Go.Vd
abbrev Kt:=List UInt8
abbrev GN(a b:Kt):Bool:=Op.bytesLess a b
def CT:∀a:Kt,GN a a=false
 |[]=>rfl
 |x::r=>by simp[GN,Op.bytesLess];exact CT r
def Lk:∀{a b:Kt},a≠b->GN a b=!GN b a
 |[],[],h=>absurd rfl h
 |[],y::s,_=>rfl
 |x::r,[],_=>rfl
 |x::r,y::s,h=>by
  simp only[GN,Op.bytesLess];by_cases c:x=y
  ·have:=@Lk r s (by intro e;exact h (by rw[c,e]));simp only[GN]at this;simp_all
  ·grind
def BZ:∀{a b c:Kt},GN a b=true->GN b c=true->GN a c=true
 |a,b,[],h1,h2=>by simp[GN,Op.bytesLess]at h2
 |a,[],z::t,h1,h2=>by cases a<;>simp[GN,Op.bytesLess]at h1
 |[],y::s,z::t,h1,h2=>rfl
 |x::r,y::s,z::t,h1,h2=>by
  simp only[GN,Op.bytesLess,Zx,QA,decide_eq_true_eq,beq_iff_eq]at h1 h2 ⊢;rcases h1 with h1|⟨rfl,h1⟩
  ·grind
  ·rcases h2 with h2|⟨rfl,h2⟩
   ·left;exact h2
   ·right;exact⟨rfl,@BZ r s t h1 h2⟩
def CC{a b:Kt}(h:GN a b=true):GN b a=false:=by
 by_cases e:a=b
 ·subst e;rw[CT]at h;cases h
 ·have:=Lk e;simp_all
inductive Tr where
 |nil
 |node (l:Tr) (k v:Kt) (r:Tr)
namespace Tr
def tall:Tr->Nat
 |nil=>0
 |node l _ _ r=>1+max l.tall r.tall
def cnt:Tr->Nat
 |nil=>0
 |node l _ _ r=>1+l.cnt+r.cnt
def wgt:Tr->Nat
 |nil=>0
 |node l k v r=>4+k.length+v.length+l.wgt+r.wgt
def lst:Tr->List (Kt×Kt)
 |nil=>[]
 |node l k v r=>l.lst++(k,v)::r.lst
def rotL:Tr->Tr
 |node l k v (node a x y b)=>node (node l k v a) x y b
 |t=>t
def rotR:Tr->Tr
 |node (node a x y b) k v r=>node a x y (node b k v r)
 |t=>t
def level(l:Tr)(k v:Kt)(r:Tr):Tr:=
 if r.tall+1<l.tall then
  match l with
  |node a x y b=>if a.tall<b.tall then rotR (node (rotL l) k v r)else rotR (node l k v r)
  |nil=>node l k v r
 else if l.tall+1<r.tall then
  match r with
  |node a x y b=>if b.tall<a.tall then rotL (node l k v (rotR r))else rotL (node l k v r)
  |nil=>node l k v r
 else node l k v r
def join(l:Tr)(k v:Kt)(r:Tr):Tr:=
 if r.tall+1<l.tall then
  match l with
  |node a x y b=>level a x y (join b k v r)
  |nil=>node l k v r
 else if l.tall+1<r.tall then
  match r with
  |node a x y b=>level (join l k v a) x y b
  |nil=>node l k v r
 else node l k v r
termination_by SizeOf.sizeOf l+SizeOf.sizeOf r
def put(k v:Kt):Tr->Tr
 |nil=>node nil k v nil
 |node l x y r=>if GN k x then level (put k v l) x y r else if GN x k then level l x y (put k v r)else node l k v r
def first:Tr->Kt->Kt->Tr->Kt×Kt×Tr
 |nil,k,v,r=>(k,v,r)
 |node a x y b,k,v,r=>let z:=first a x y b;(z.1,z.2.1,level z.2.2 k v r)
def both(l r:Tr):Tr:=
 match r with
 |nil=>l
 |node a x y b=>let z:=first a x y b;join l z.1 z.2.1 z.2.2
def split(q:Kt):Tr->Tr×Tr
 |nil=>(nil,nil)
 |node l x y r=>if GN x q then let z:=split q r;(join l x y z.1,z.2)else let z:=split q l;(z.1,join z.2 x y r)
def get(q:Kt):Tr->Option Kt
 |nil=>none
 |node l x y r=>if GN q x then get q l else if GN x q then get q r else some y
def rank(q:Kt):Tr->Nat
 |nil=>0
 |node l x y r=>if GN x q then 1+l.cnt+rank q r else rank q l
def at_:Tr->Nat->Option (Kt×Kt)
 |nil,_=>none
 |node l x y r,i=>if i<l.cnt then at_ l i else if l.cnt<i then at_ r (i-(l.cnt+1))else some (x,y)
def Wk:∀t,(rotL t).lst=t.lst
 |nil=>rfl
 |node l k v nil=>rfl
 |node l k v (node a x y b)=>by simp[rotL,lst]
def Wj:∀t,(rotR t).lst=t.lst
 |nil=>rfl
 |node nil k v r=>rfl
 |node (node a x y b) k v r=>by simp[rotR,lst]
def Er(l:Tr)(k v:Kt)(r:Tr):(level l k v r).lst=l.lst++(k,v)::r.lst:=by
 unfold level;split
 ·split
  ·split<;>simp[Wj,lst,Wk]
  ·rfl
 ·split
  ·split
   ·split<;>simp[Wk,lst,Wj]
   ·rfl
  ·rfl
def EF(l:Tr)(k v:Kt)(r:Tr):(join l k v r).lst=l.lst++(k,v)::r.lst:=by
 fun_induction join l k v r<;>simp_all [Er,lst]
def FK:∀(l:Tr)(k v:Kt)(r:Tr),((first l k v r).1,(first l k v r).2.1)::(first l k v r).2.2.lst=l.lst++(k,v)::r.lst
 |nil,k,v,r=>rfl
 |node a x y b,k,v,r=>by
  have:=FK a x y b;simp only[first,Er,lst];rw[←this];rfl
def Wl(l r:Tr):(both l r).lst=l.lst++r.lst:=by
 unfold both;cases r with
 |nil=>simp[lst]
 |node a x y b=>
  have:=FK a x y b;simp only[EF];rw[this];rfl
def Ord(l:List (Kt×Kt)):Prop:=l.Pairwise λa b=>GN a.1 b.1=true
def lN{a b:List (Kt×Kt)}:Ord (a++b)↔Ord a∧Ord b∧∀x∈a,∀y∈b,GN x.1 y.1=true:=List.pairwise_append
def TQ{a b:List (Kt×Kt)}{k v:Kt}(h:Ord (a++(k,v)::b)):Ord a∧Ord b∧(∀x∈a,GN x.1 k=true)∧(∀x∈b,GN k x.1=true):=by
 obtain⟨u,z,i⟩:=lN.1 h;have o:=QM.1 z;exact⟨u,o.2,λx q=>i x q _ Qp,λx q=>o.1 x q⟩
def gP(l:List (Kt×Kt))(k v:Kt):List (Kt×Kt):=l.filter (λx=>GN x.1 k)++(k,v)::l.filter (λx=>GN k x.1)
def DP{l:List (Kt×Kt)}{p:Kt×Kt->Bool}(h:∀x∈l,p x=true):l.filter p=l:=List.filter_eq_self.2 h
def Gi{l:List (Kt×Kt)}{p:Kt×Kt->Bool}(h:∀x∈l,p x=false):l.filter p=[]:=Zw.2 λx q=>by rw[h x q];simp
def lst_put(k v:Kt):∀t:Tr,Ord t.lst->(put k v t).lst=gP t.lst k v
 |nil,_=>rfl
 |node l x y r,h=>by
  obtain⟨u,h2,i,o⟩:=TQ h;unfold put;split
  ·rename_i c;rw[Er,lst_put k v l u];have w:r.lst.filter (λx=>GN x.1 k)=[]:=Gi λz d=>CC (BZ c (o z d))
   have f:r.lst.filter (λx=>GN k x.1)=r.lst:=DP λz d=>BZ c (o z d)
   simp[gP,lst,Q_,Qk,c,CC c,w,f]
  ·split
   ·rename_i b c;rw[Er,lst_put k v r h2];have w:l.lst.filter (λx=>GN x.1 k)=l.lst:=DP λz d=>BZ (i z d) c
    have f:l.lst.filter (λx=>GN k x.1)=[]:=Gi λz d=>CC (BZ (i z d) c)
    simp[gP,lst,Q_,Qk,c,CC c,w,f]
   ·rename_i b c;have e:k=x:=by
     by_cases e:k=x
     ·exact e
     ·have:=Lk e;simp_all
    subst e;have w:l.lst.filter (λx=>GN x.1 k)=l.lst:=DP i;have f:l.lst.filter (λx=>GN k x.1)=[]:=Gi λz d=>CC (i z d)
    have n:r.lst.filter (λx=>GN x.1 k)=[]:=Gi λz d=>CC (o z d)
    have m:r.lst.filter (λx=>GN k x.1)=r.lst:=DP o;simp[gP,lst,Q_,Qk,CT,w,f,n,m]
def lst_split(q:Kt):∀t:Tr,Ord t.lst->(split q t).1.lst=t.lst.filter (λx=>GN x.1 q)∧(split q t).2.lst=t.lst.filter (λx=>!GN x.1 q)
 |nil,_=>⟨rfl,rfl⟩
 |node l x y r,h=>by
  obtain⟨u,v,i,o⟩:=TQ h;unfold split;split
  ·rename_i c;obtain⟨a,b⟩:=lst_split q r v;have w:l.lst.filter (λx=>GN x.1 q)=l.lst:=DP λz d=>BZ (i z d) c
   have f:l.lst.filter (λx=>!GN x.1 q)=[]:=Gi λz d=>by rw[BZ (i z d) c];rfl
   simp[EF,a,b,lst,Q_,Qk,c,w,f]
  ·rename_i c;have c:GN x q=false:=by simpa using c
   obtain⟨a,b⟩:=lst_split q l u;have n:∀z∈r.lst,GN z.1 q=false:=λz d=>by
    cases hh:GN z.1 q with
    |false=>rfl
    |true=>rw[BZ (o z d) hh]at c;cases c
   have w:r.lst.filter (λx=>GN x.1 q)=[]:=Gi n;have f:r.lst.filter (λx=>!GN x.1 q)=r.lst:=DP λz d=>by rw[n z d];rfl
   simp[EF,a,b,lst,Q_,Qk,c,w,f]
def cnt_lst:∀t:Tr,t.lst.length=t.cnt
 |nil=>rfl
 |node l k v r=>by simp[lst,cnt,cnt_lst l,cnt_lst r];omega
def at_lst:∀(t:Tr)(i:Nat),at_ t i=t.lst[i]?
 |nil,i=>by simp[at_,lst]
 |node l x y r,i=>by
  unfold at_;have p:=cnt_lst l;split
  ·rename_i c;rw[at_lst l i,lst,QP O]
  ·split
   ·rename_i b c;rw[at_lst r,lst,Zj O,p];obtain⟨j,rfl⟩:∃j,i=l.cnt+1+j:=⟨i-(l.cnt+1),O⟩;rw[show l.cnt+1+j-l.cnt=j+1 by omega,List.getElem?_cons_succ];congr 1;omega
   ·rename_i b c;have:i=l.cnt:=by omega
    rw[lst,Zj O,p,this];simp
def PG(l:List (Kt×Kt))(q:Kt):Option Kt:=(l.find? λx=>x.1==q).map (·.2)
def get_lst(q:Kt):∀t:Tr,Ord t.lst->get q t=PG t.lst q
 |nil,_=>rfl
 |node l x y r,h=>by
  obtain⟨u,v,i,o⟩:=TQ h;have p:∀{l:List (Kt×Kt)},(∀z∈l,z.1≠q)->l.find? (λx=>x.1==q)=none:=λn=>Zk.2 λz hz=>by simpa using n z hz
  unfold get;split
  ·rename_i c;have e:((x,y)::r.lst).find? (λx=>x.1==q)=none:=p λz hz e=>by
    rcases Qq.1 hz with rfl|hz
    ·simp only at e;subst e;rw[CT]at c;cases c
    ·have:=BZ c (o z hz);rw[e,CT]at this;cases this
   rw[get_lst q l u];simp only[PG,lst,Zn,e,Option.or_none]
  ·split
   ·rename_i b c;have e:l.lst.find? (λx=>x.1==q)=none:=p λz hz e=>by
     have:=BZ (i z hz) c;rw[e,CT]at this;cases this
    have f:(x==q)=false:=by
     cases n:x==q with
     |false=>rfl
     |true=>have:=beq_iff_eq.1 n;subst this;rw[CT]at c;cases c
    rw[get_lst q r v];simp only[PG,lst,Zn,e,Option.none_or,ZP,f]
   ·rename_i b c;have e:x=q:=by
     by_cases e:x=q
     ·exact e
     ·have:=Lk e;simp_all
    subst e;have e:l.lst.find? (λz=>z.1==x)=none:=Zk.2 λz hz=>by
     intro e;have:=beq_iff_eq.1 e;have k:=i z hz;rw[this,CT]at k;cases k
    simp[PG,lst,Zn,e,ZP]
end Tr
def zH{P:Program}{f:FuncId}{N:Nat}{e:DC}{rs:List RV}(k:Fn P f N e rs):(Ac λ_=>none).ok P f:=by
 obtain⟨n,v,q,t,i,o,s,b⟩:=k.is;refine⟨⟨n,q,by rw[t];rfl,i⟩,λds m m' fr _=>rfl,?_⟩;intro a w0 w m g fr ds vs r u hi p hl c z;simp[Ac]at z
def jW(S:(List D->Option D)->Gq)(g:DC)(rs:List RV)(N:Nat):Nat->List D->Option D
 |0=>λ_=>none
 |n+1=>RF (S (jW S g rs N n)) g rs N
def xZ{P:Program}{f:FuncId}{N:Nat}{g:DC}{rs:List RV}{S:(List D->Option D)->Gq}(k:Fn P f N g rs)(j:∀G,(Ac G).ok P f->Gq.ok P (S G)):∀n,(Ac (jW S g rs N n)).ok P f
 |0=>zH k
 |n+1=>An k (j _ (xZ k j n))
def aFK{P:Program}{f:FuncId}{A:Nat->List D->Option D}(m:List D->Nat)(h:∀n,(Ac (A n)).ok P f):(Ac λds=>A (m ds) ds).ok P f:=by
 refine⟨(h 0).1,λds m m' fr _=>rfl,?_⟩;intro a w0 w m' g fr ds vs r u hi p hl c z;obtain⟨_,_,i⟩:=h (m (ds.map D.un));exact i hi p hl c (by simpa[Ac]using z)
def GF:Tr->D
 | .nil=> .nilptr
 | .node l k v r=> .eptr [.str k,.str v,GF l,GF r,.int .i64 ((Tr.node l k v r).tall:Nat),.int .i64 ((Tr.node l k v r).cnt:Nat),.int .i64 ((Tr.node l k v r).wgt:Nat)]
def Vv(t:Tr):(GF t).calm=true:=Xi
def pT(t:Tr):(GF t).calm1=true:=Xi
def aNi(t:Tr):(GF t).un=GF t:=Xi
def aFh(t:Tr):(GF t).un1=GF t:=Xi
def pS(t:Tr):(GF t).cells=[GF t]:=Xi
def EW:∀{a b:Tr},GF a=GF b->a=b
 | .nil,.nil,_=>rfl
 | .nil,.node _ _ _ _,h=>by simp[GF]at h
 | .node _ _ _ _,.nil,h=>by simp[GF]at h
 | .node l k v r,.node l' k' v' r',h=>by
  simp only[GF,D.eptr.injEq,Qn,D.str.injEq]at h;obtain⟨rfl,rfl,u,z,_⟩:=h;rw[EW u,EW z]
def D.dep:D->Nat
 | .eptr ds=>1+D.depL ds
 |_=>0
where D.depL:List D->Nat
 |[]=>0
 |d::ds=>max d.dep (D.depL ds)
def IC:∀t:Tr,(GF t).dep=t.tall
 | .nil=>rfl
 | .node l k v r=>by
  simp only[GF,D.dep,D.dep.D.depL,IC l,IC r,Tr.tall];omega
def iP(ds:List D):Nat:=2*D.dep.D.depL ds+1
def RT(S:(List D->Option D)->Gq)(g:DC)(rs:List RV)(N:Nat)(ds:List D):Option D:=jW S g rs N (iP ds) ds
def lH{P:Program}{f:FuncId}{N:Nat}{g:DC}{rs:List RV}{S:(List D->Option D)->Gq}(k:Fn P f N g rs)(j:∀G,(Ac G).ok P f->Gq.ok P (S G)):(Ac (RT S g rs N)).ok P f:=
 aFK iP (xZ k j)
namespace Tr
def zW(a b:Kt):GN a b=true∨a=b∨GN b a=true:=by
 by_cases e:a=b
 ·exact .inr (.inl e)
 ·have:=Lk e;cases h:GN a b with
  |true=>exact .inl rfl
  |false=>rw[h]at this;exact .inr (.inr (by cases z:GN b a<;>simp_all))
def aSL{a b:Kt}(h:GN a b=true):(a==b)=false:=by
 cases hh:a==b with
 |false=>rfl
 |true=>have:=beq_iff_eq.1 hh;subst this;rw[CT]at h;cases h
def aNV{a b:Kt}(h:GN a b=true):(b==a)=false:=by
 cases hh:b==a with
 |false=>rfl
 |true=>have:=beq_iff_eq.1 hh;subst this;rw[CT]at h;cases h
def ord_sub{a b:List (Kt×Kt)}(h:a.Sublist b)(k:Ord b):Ord a:=List.Pairwise.sublist h k
def aBc(q:Kt):∀{l:List (Kt×Kt)},Ord l->l.filter (λx=>GN x.1 q)++l.filter (λx=>GN q x.1)=l.filter (λx=>x.1 !=q)
 |[],_=>rfl
 |(k,v)::l,h=>by
  obtain⟨u,t⟩:=QM.1 h;have ih:=aBc q t;rcases zW k q with c|rfl|c
  ·simp only[bne]at ih ⊢;simp[Qk,c,CC c,aSL c,ih]
  ·have w:l.filter (λx=>GN x.1 k)=[]:=Gi λz d=>CC (u z d)
   rw[w]at ih;simp only[bne]at ih ⊢;simp[Qk,CT,w,←ih]
  ·have w:l.filter (λx=>GN x.1 q)=[]:=Gi λz d=>CC (BZ c (u z d))
   rw[w]at ih;simp only[bne]at ih ⊢;simp[Qk,c,CC c,aNV c,w,←ih]
def fil_ge{q v:Kt}:∀{l:List (Kt×Kt)},Ord l->(q,v)∈l->l.filter (λx=>!GN x.1 q)=(q,v)::l.filter (λx=>GN q x.1)
 |(k,w)::l,h,hm=>by
  obtain⟨u,t⟩:=QM.1 h;rcases Qq.1 hm with e|hm
  ·cases e;have j:l.filter (λx=>!GN x.1 q)=l:=DP λz d=>by rw[CC (u z d)];rfl
   have f:l.filter (λx=>GN q x.1)=l:=DP λz d=>u z d
   simp[Qk,CT,j,f]
  ·have c:=u _ hm;simp only at c;simp[Qk,c,CC c,fil_ge t hm]
def getL_some{l:List (Kt×Kt)}{q v:Kt}(h:PG l q=some v):(q,v)∈l:=by
 unfold PG at h;obtain⟨x,u,rfl⟩:=Qx.1 h;have z:=List.find?_some u;have i:=List.mem_of_find?_eq_some u;have:x.1=q:=by simpa using z
 rw[←this];exact i
def SK{l:List (Kt×Kt)}{q:Kt}(h:PG l q=none):∀x∈l,x.1≠q:=by
 unfold PG at h;have u:=Option.map_eq_none_iff.1 h;intro x d e;have:=Zk.1 u x d;simp[e]at this
def getL_mem{l:List (Kt×Kt)}(h:Ord l){q v:Kt}(k:(q,v)∈l):PG l q=some v:=by
 cases hg:PG l q with
 |none=>exact absurd rfl (SK hg _ k)
 |some w=>
  have z:=getL_some hg;rcases Classical.em (w=v)with e|e
  ·rw[e]
  ·exfalso;obtain⟨i,hi,p⟩:=QJ k;obtain⟨j,t,u⟩:=QJ z;rcases ZH i j with c|c|c
   ·have:=QC.1 h i j hi t c;rw[p,u,CT]at this;cases this
   ·subst c;rw[p]at u;cases u;exact e rfl
   ·have:=QC.1 h j i t hi c;rw[p,u,CT]at this;cases this
def delT(q:Kt)(t:Tr):Tr:=
 match get q t with
 |none=>t
 |some _=>match (split q t).2 with
  |nil=>(split q t).1
  |node a x y b=>both (split q t).1 (first a x y b).2.2
def lst_del(q:Kt)(t:Tr)(h:Ord t.lst):(delT q t).lst=t.lst.filter λx=>x.1 !=q:=by
 unfold delT;rw[get_lst q t h];cases hg:PG t.lst q with
 |none=>exact(DP λz d=>by simpa using SK hg z d).symm
 |some v=>
  have w:=getL_some hg;obtain⟨i,p⟩:=lst_split q t h;rw[fil_ge h w]at p;simp only;cases d:(split q t).2 with
  |nil=>rw[d]at p;cases p
  |node a x y b=>
   rw[d]at p;have k:=FK a x y b;simp only[lst]at p;rw[p]at k;simp only[Wl,i,(ZZ k).2,aBc q h]
def beyB:Kt->Option Kt
 |[]=>none
 |x::r=>match beyB r with
  |some e=>some (x::e)
  |none=>if x<255 then some [x+1]else none
def dropT(p:Kt)(t:Tr):Tr:=
 match beyB p with
 |none=>(split p t).1
 |some e=>both (split p t).1 (split e (split p t).2).2
def mT(p:Kt)(l:List (Kt×Kt)):List (Kt×Kt):=
 l.filter (λx=>GN x.1 p)++match beyB p with
  |none=>[]
  |some e=>(l.filter λx=>!GN x.1 p).filter λx=>!GN x.1 e
def lst_drop(p:Kt)(t:Tr)(h:Ord t.lst):(dropT p t).lst=mT p t.lst:=by
 obtain⟨i,v⟩:=lst_split p t h;unfold dropT mT;cases beyB p with
 |none=>simp[i]
 |some e=>
  have:=(lst_split e (split p t).2 (by rw[v];exact ord_sub QW h)).2;simp only[Wl,i,this,v]
def mO(p:Kt):∀{l:List (Kt×Kt)},Ord l->l.filter (λx=>GN x.1 p)++l.filter (λx=>!GN x.1 p)=l
 |[],_=>rfl
 |(k,v)::l,h=>by
  obtain⟨u,t⟩:=QM.1 h;have ih:=mO p t;cases c:GN k p with
  |true=>simp[Qk,c,ih]
  |false=>
   have e:∀z∈l,GN z.1 p=false:=λz d=>by
    cases hh:GN z.1 p with
    |false=>rfl
    |true=>rw[BZ (u z d) hh]at c;cases c
   have w:l.filter (λx=>GN x.1 p)=[]:=Gi e;have f:l.filter (λx=>!GN x.1 p)=l:=DP λz d=>by rw[e z d];rfl
   simp only[Qk,c,w,f];rfl
def drop_sub(p:Kt){l:List (Kt×Kt)}(h:Ord l):(mT p l).Sublist l:=by
 unfold mT;have e:=mO p h
 conv=>rhs;rw[←e]
 refine List.Sublist.append (List.Sublist.refl _) ?_;cases beyB p with
 |none=>exact List.nil_sublist _
 |some e=>exact QW
def ins_ord{l:List (Kt×Kt)}(h:Ord l)(k v:Kt):Ord (gP l k v):=by
 refine lN.2 ⟨ord_sub QW h,QM.2 ⟨λx q=>Yt,ord_sub QW h⟩,λx q y hy=>?_⟩;have m:GN x.1 k=true:=Yt
 rcases Qq.1 hy with rfl|hy
 ·exact m
 ·exact BZ m (by simpa using (QR.1 hy).2)
def ins_mem{l:List (Kt×Kt)}{k v:Kt}{x:Kt×Kt}(h:x∈gP l k v):x=(k,v)∨x∈l:=by
 unfold gP at h;rcases QQ.1 h with h|h
 ·exact .inr (QR.1 h).1
 ·rcases Qq.1 h with h|h
  ·exact .inl h
  ·exact .inr (QR.1 h).1
inductive Op1 where
 |put (k v:Kt)
 |del (k:Kt)
 |drop (k:Kt)
def costL(x:Kt×Kt):Nat:=36+x.1.length+min x.2.length 1048576
def weighL(l:List (Kt×Kt)):Nat:=4+(l.map costL).sum
def weigh_len:∀l:List (Kt×Kt),36*l.length+4<=weighL l
 |[]=>by simp[weighL]
 |y::l=>by
  have:=weigh_len l;simp only[weighL,QV,ZT,Qb,costL]at this ⊢;omega
def tall_cnt:∀t:Tr,t.tall<=t.cnt
 |nil=>Qg _
 |node l k v r=>by have:=tall_cnt l;have:=tall_cnt r;simp only[tall,cnt];omega
def sizeL(l:List (Kt×Kt)):Nat:=(l.map λx=>4+x.1.length+x.2.length).sum
def wgt_lst:∀t:Tr,t.wgt=sizeL t.lst
 |nil=>rfl
 |node l k v r=>by
  have:=wgt_lst l;have:=wgt_lst r;simp only[wgt,lst,sizeL,Zy,List.sum_append,QV,ZT]at *;omega
end Tr
end Go.Vd
namespace Go.Vd
open Go.Proofs Go.RowKit
def IB:GF .nil= .nilptr:=rfl
section
variable{S:Gq}{l r:Tr}{k v:Bs}
def aNh{K:D->GA->Prop}{g:Tag K}:IM (GF (.node l k v r)) K g=K (GF (.node l k v r)) []:=rfl
def aRe:EL 0 (GF (.node l k v r))=some (.eptr [.str k,.str v,GF l,GF r,.int .i64 ((Tr.node l k v r).tall:Nat),.int .i64 ((Tr.node l k v r).cnt:Nat),.int .i64 ((Tr.node l k v r).wgt:Nat)]):=rfl
def aRd:EL 1 (GF (.node l k v r))=some (.eptr [.str v,GF l,GF r,.int .i64 ((Tr.node l k v r).tall:Nat),.int .i64 ((Tr.node l k v r).cnt:Nat),.int .i64 ((Tr.node l k v r).wgt:Nat)]):=rfl
def aRc:EL 2 (GF (.node l k v r))=some (.eptr [GF l,GF r,.int .i64 ((Tr.node l k v r).tall:Nat),.int .i64 ((Tr.node l k v r).cnt:Nat),.int .i64 ((Tr.node l k v r).wgt:Nat)]):=rfl
def aRb:EL 3 (GF (.node l k v r))=some (.eptr [GF r,.int .i64 ((Tr.node l k v r).tall:Nat),.int .i64 ((Tr.node l k v r).cnt:Nat),.int .i64 ((Tr.node l k v r).wgt:Nat)]):=rfl
def aRa:EL 4 (GF (.node l k v r))=some (.eptr [.int .i64 ((Tr.node l k v r).tall:Nat),.int .i64 ((Tr.node l k v r).cnt:Nat),.int .i64 ((Tr.node l k v r).wgt:Nat)]):=rfl
def aQ9:EL 5 (GF (.node l k v r))=some (.eptr [.int .i64 ((Tr.node l k v r).cnt:Nat),.int .i64 ((Tr.node l k v r).wgt:Nat)]):=rfl
def aQ8:EL 6 (GF (.node l k v r))=some (.eptr [.int .i64 ((Tr.node l k v r).wgt:Nat)]):=rfl
def aQ7:L0 1 (GF (.node l k v r)) .nilptr=some false:=rfl
def aNf:L0 1 .nilptr .nilptr=some true:=rfl
def Ti(t:Tr):(GF t).calm=true:=Vv t
def Vu(t:Tr):(GF t).calmR=true:=Xi
def aNg(t:Tr):(GF t).unR=GF t:=Xi
def aFd(t:Tr):(GF t).data=true:=Xi
def aFU:D.calm .nilptr=true:=rfl
def aSm:D.un .nilptr= .nilptr:=rfl
def zF:D.cells .nilptr=[.nilptr]:=rfl
def zG:D.calm1 .nilptr=true:=rfl
def aNP:D.un1 .nilptr= .nilptr:=rfl
end
def GH:=Qr @aNh <| Qr @aRe <| Qr @aRd <| Qr @aRc <| Qr @aRb <| Qr @aRa <| Qr @aQ9 <| Qr @aQ8 <| Qr @aQ7 <| Qr @aNf <| Qr Ti <| Qr Vu <| Qr aNg <| Qr aFd <| Qr aNi <| Qr aFh <| Qr pT <| Qr pS <| Qr aFU <| Qr aSm <| Qr zF <| Qr zG <| Qr aNP IB
def aU1:=Ap []
def dF:=RF aU1 aBG [.t 2] 9
def gG:Kq dF 256:=An (Aj func256) Ad
def CR(t:Tr):dF [GF t]=some (.int .i64 (t.tall:Nat)):=by
 refine Am (Qa rfl) ?_;unfold aBG;cases t with
 |nil=>
  simp only[Gv,↓C2,Gp,simprocAttr,GH,bne_self_eq_false]
  all_goals exact YT
 |node l k v r=>
  simp only[Gv,↓C2,Gp,simprocAttr,GH]
  all_goals exact YT
def aU7:=Ap []
def MF:=RF aU7 aBO [.t 2] 9
def Ue:Kq MF 104:=An (Aj func104) Ad
def Iv(t:Tr):MF [GF t]=some (.int .i64 (t.cnt:Nat)):=by
 refine Am (Qa rfl) ?_;unfold aBO;cases t with
 |nil=>
  simp only[Gv,↓C2,Gp,simprocAttr,GH,bne_self_eq_false]
  all_goals exact YT
 |node l k v r=>
  simp only[Gv,↓C2,Gp,simprocAttr,GH]
  all_goals exact YT
def aU4:=Ap []
def aDs:=RF aU4 aBK [.t 2] 9
def aAt:Kq aDs 172:=An (Aj func172) Ad
def Re(t:Tr):aDs [GF t]=some (.int .i64 (t.wgt:Nat)):=by
 refine Am (Qa rfl) ?_;unfold aBK;cases t with
 |nil=>
  simp only[Gv,↓C2,Gp,simprocAttr,GH,bne_self_eq_false]
  all_goals exact YT
 |node l k v r=>
  simp only[Gv,↓C2,Gp,simprocAttr,GH]
  all_goals exact YT
def mkN(p:Tr×Bs×Bs×Tr):List D:=[GF p.1,.str p.2.1,.str p.2.2.1,GF p.2.2.2]
def aFZ(x y)(h:mkN x=mkN y):x=y:=by
 obtain⟨a,b,c,d⟩:=x;obtain⟨t,v,c',k⟩:=y;simp only[mkN,Qn,D.str.injEq,and_true]at h;obtain⟨u,rfl,rfl,z⟩:=h;rw[EW u,EW z]
def aJs(l:Tr)(k v:Bs)(r:Tr):Prop:=l.cnt+r.cnt<=1000000∧l.wgt+r.wgt+k.length+v.length<=1000000000000
def Iz:List D->Option D:=FX mkN (λp=>aJs p.1 p.2.1 p.2.2.1 p.2.2.2) λp=>GF (.node p.1 p.2.1 p.2.2.1 p.2.2.2)
def GM{l:Tr}{k v:Bs}{r:Tr}(h:aJs l k v r):Iz [GF l,.str k,.str v,GF r]=some (GF (.node l k v r)):=BO (mk:=mkN) (a:=(l,k,v,r)) aFZ h
def MY:Kq Iz 202:=by
 obtain⟨S,s,hl⟩:=Bd (Aa gG (Aa Ue (Aa aAt Ad)));have e:=hl 256 _ rfl;have z:=hl 104 _ rfl;have a:=hl 172 _ rfl;clear hl;refine aA2 s (Aj func202:Fn Qd 202 39 aBJ [.t 8]) (λ_=>by simp[mkN]) (λp d=>⟨Vu _,?_⟩);obtain⟨l,k,v,r⟩:=p;obtain⟨y,b⟩:=d;simp only at y b;have t1:=Tr.tall_cnt l;have t2:=Tr.tall_cnt r;have a1:=CR l;have a2:=CR r;have b1:=Iv l;have g:=Iv r;have c1:=Re l;have u:=Re r;have w:IntKind.i64.wrap (1+max (l.tall:Int) r.tall)=((1+max l.tall r.tall:Nat):Int):=Xh
 have f:IntKind.i64.wrap (1+(l.cnt:Int))=((1+l.cnt:Nat):Int):=Xh
 have n:IntKind.i64.wrap (((1+l.cnt:Nat):Int)+r.cnt)=((1+l.cnt+r.cnt:Nat):Int):=Xh
 have c:IntKind.i64.wrap (4+(k.length:Int))=((4+k.length:Nat):Int):=Xh
 have e5:IntKind.i64.wrap (((4+k.length:Nat):Int)+v.length)=((4+k.length+v.length:Nat):Int):=Xh
 have e6:IntKind.i64.wrap (((4+k.length+v.length:Nat):Int)+l.wgt)=((4+k.length+v.length+l.wgt:Nat):Int):=Xh
 have e7:IntKind.i64.wrap (((4+k.length+v.length+l.wgt:Nat):Int)+r.wgt)=((4+k.length+v.length+l.wgt+r.wgt:Nat):Int):=Xh
 unfold aBJ mkN;simp only;simp only[Gv,↓C2,Gp,simprocAttr,GH,Ab e,Ab z,Ab a,a1,a2,b1,g,c1,u,w,f,n,c,e5,e6,e7];refine .inl ⟨Ti _,.inl (.inr (.inr ⟨_,_,rfl,rfl,?_,?_⟩))⟩
 ·intro x q;simp only[Qq,Zo,or_false]at q;rcases q with rfl|rfl|rfl|rfl|rfl|rfl|rfl
  all_goals (first|rfl|exact Ti _)
 ·intro j x q;have hl:=(Qy.1 q).1;have d:=aE (m:=λ_ _=>none) (i:=[30]) (o:=0) (ds:=[D.str k,D.str v,GF l,GF r,D.int IntKind.i64 ((Tr.node l k v r).tall:Nat),D.int IntKind.i64 ((Tr.node l k v r).cnt:Nat),D.int IntKind.i64 ((Tr.node l k v r).wgt:Nat)]) (j:=j) hl;rw[Ql]at d;rw[←q];exact d
def aBF:=y2 f257 [(2,[(16,20),(16,24),(16,28)])] []
def aBE:=y2 Tryz.f258 [(2,[(28,3),(28,7),(28,11)])] []
def aBI:=y2 f203 [(1,[(4,8)]),(3,[(7,11),(7,14)]),(4,[(4,8),(4,12),(4,16)]),(7,[(7,11),(7,14)]),(8,[(16,3),(16,7),(16,11)])] []
namespace Tr
def cnt_level(l:Tr)(k v:Kt)(r:Tr):(level l k v r).cnt=1+l.cnt+r.cnt:=by
 rw[←cnt_lst,Er,Qj,Qb,cnt_lst,cnt_lst];omega
def cnt_join(l:Tr)(k v:Kt)(r:Tr):(join l k v r).cnt=1+l.cnt+r.cnt:=by
 rw[←cnt_lst,EF,Qj,Qb,cnt_lst,cnt_lst];omega
def LN(a b:List (Kt×Kt)):sizeL (a++b)=sizeL a+sizeL b:=by simp[sizeL]
def size_cons(k v:Kt)(b:List (Kt×Kt)):sizeL ((k,v)::b)=4+k.length+v.length+sizeL b:=by simp[sizeL]
def wgt_level(l:Tr)(k v:Kt)(r:Tr):(level l k v r).wgt=4+k.length+v.length+l.wgt+r.wgt:=by
 rw[wgt_lst,Er,LN,size_cons,wgt_lst l,wgt_lst r];omega
def wgt_join(l:Tr)(k v:Kt)(r:Tr):(join l k v r).wgt=4+k.length+v.length+l.wgt+r.wgt:=by
 rw[wgt_lst,EF,LN,size_cons,wgt_lst l,wgt_lst r];omega
def cnt_first(l:Tr)(k v:Kt)(r:Tr):(first l k v r).2.2.cnt=l.cnt+r.cnt:=by
 have:=congrArg ZM (FK l k v r);rw[Qb,Qj,Qb,cnt_lst,cnt_lst,cnt_lst]at this;omega
def wgt_first(l:Tr)(k v:Kt)(r:Tr):4+(first l k v r).1.length+(first l k v r).2.1.length+(first l k v r).2.2.wgt=4+k.length+v.length+l.wgt+r.wgt:=by
 have:=congrArg sizeL (FK l k v r);rw[LN,size_cons,size_cons,←wgt_lst,←wgt_lst,←wgt_lst]at this;omega
def F5(q:Kt):∀t:Tr,(split q t).1.lst++(split q t).2.lst=t.lst
 |nil=>rfl
 |node l x y r=>by
  unfold split;split
  ·have:=F5 q r;simp only[EF,lst];rw[←this];simp
  ·have:=F5 q l;simp only[EF,lst];rw[←this];simp
def cnt_split(q:Kt)(t:Tr):(split q t).1.cnt+(split q t).2.cnt=t.cnt:=by
 rw[←cnt_lst,←cnt_lst,←cnt_lst,←Qj,F5]
def wgt_split(q:Kt)(t:Tr):(split q t).1.wgt+(split q t).2.wgt=t.wgt:=by
 rw[wgt_lst,wgt_lst,wgt_lst t,←LN,F5]
end Tr
def Vg(t:Tr):Prop:=t.cnt<=900000∧t.wgt<=900000000000
def aMr:=Ap [(202,Ac Iz)]
def aDq:=RF aMr aBF [.t 2] 38
def aOc:Kq aDq 257:=An (Aj func257) (Aa MY Ad)
def Rc{l:Tr}{k v:Bs}{a:Tr}{x y:Bs}{b:Tr}(h:Vg (.node l k v (.node a x y b))):aDq [GF (.node l k v (.node a x y b))]=some (GF (.node (.node l k v a) x y b)):=by
 refine Am (Qa rfl) ?_;unfold aBF;simp only[Vg,Tr.cnt,Tr.wgt]at h;have w:=GM (l:=l) (k:=k) (v:=v) (r:=a) ⟨O,O⟩;have f:=GM (l:= .node l k v a) (k:=x) (v:=y) (r:=b) ⟨Xg,Xf⟩;simp only[Gv,↓C2,Gp,simprocAttr,GH,Ae aMr 202,w,f]
 (refine aB (Al ?_) ?_;first|rfl|simp[AH,Ay,GK,Ai,Ac])
 simp only[Gv,↓C2,Gp,simprocAttr,GH]
 all_goals exact YT
def aMq:=Ap [(202,Ac Iz)]
def aDp:=RF aMq aBE [.t 2] 38
def aOb:Kq aDp 258:=An (Aj func258) (Aa MY Ad)
def Rb{a:Tr}{x y:Bs}{b:Tr}{k v:Bs}{r:Tr}(h:Vg (.node (.node a x y b) k v r)):aDp [GF (.node (.node a x y b) k v r)]=some (GF (.node a x y (.node b k v r))):=by
 refine Am (Qa rfl) ?_;unfold aBE;simp only[Vg,Tr.cnt,Tr.wgt]at h;have w:=GM (l:=b) (k:=k) (v:=v) (r:=r) ⟨O,O⟩;have f:=GM (l:=a) (k:=x) (v:=y) (r:= .node b k v r) ⟨Xg,Xf⟩;simp only[Gv,↓C2,Gp,simprocAttr,GH,Ae aMq 202,w,f]
 (refine aB (Al ?_) ?_;first|rfl|simp[AH,Ay,GK,Ai,Ac])
 simp only[Gv,↓C2,Gp,simprocAttr,GH]
 all_goals exact YT
def DD:Gq:=Ap [(256,Ac dF),(257,Ac aDq),(258,Ac aDp),(202,Ac Iz)]
def N_:List D->Option D:=RF DD aBI [.t 2] 96
def gH:Kq N_ 203:=An (Aj func203) (Aa gG (Aa aOc (Aa aOb (Aa MY Ad))))
def Iu(l:Tr)(k v:Bs)(r:Tr)(h:Vg (.node l k v r)):N_ [GF (.node l k v r)]=some (GF (Tr.level l k v r)):=by
 refine Am (Qa rfl) ?_;unfold aBI;have j:=CR l;have e:=CR r;have m1:=Tr.tall_cnt l;have m2:=Tr.tall_cnt r;have i:=h;simp only[Vg,Tr.cnt,Tr.wgt]at h;have g:IntKind.i64.wrap ((l.tall:Int)-r.tall)=(l.tall:Int)-r.tall:=GS O O;unfold Tr.level;by_cases c1:r.tall+1<l.tall
 ·rw[if_pos c1];have d:((1:Int)<(l.tall:Int)-r.tall)=True:=eq_true O;cases l with
  |nil=>simp[Tr.tall]at c1
  |node a x y b=>
   have c:=CR a;have z:=CR b;simp only[Tr.cnt,Tr.wgt]at h;simp only;by_cases m:a.tall<b.tall
   ·rw[if_pos m];have o:((a.tall:Int)<b.tall)=True:=eq_true O;cases b with
    |nil=>simp[Tr.tall]at m
    |node p q s u=>
     simp only[Tr.cnt,Tr.wgt]at h;have w:=Rc (l:=a) (k:=x) (v:=y) (a:=p) (x:=q) (y:=s) (b:=u) ⟨Xg,Xf⟩;have f:=GM (l:= .node (.node a x y p) q s u) (k:=k) (v:=v) (r:=r) ⟨Xg,Xf⟩;have n:=Rb (a:= .node a x y p) (x:=q) (y:=s) (b:=u) (k:=k) (v:=v) (r:=r) ⟨Xg,Xf⟩;simp only[Tr.rotL,Tr.rotR];simp only[Gv,↓C2,Gp,simprocAttr,GH,Ae DD 256,j,e,g]
     (refine aB (Al ?_) ?_;first|rfl|simp[AH,Ay,GK,Ai,Ac])
     simp only[Gv,↓C2,Gp,simprocAttr,GH,d,Ae DD 256,c,z]
     (refine aB (Al ?_) ?_;first|rfl|simp[AH,Ay,GK,Ai,Ac])
     simp only[Gv,↓C2,Gp,simprocAttr,GH,o,Ae DD 257,Ae DD 202,w,f]
     (refine aB (Al ?_) ?_;first|rfl|simp[AH,Ay,GK,Ai,Ac])
     simp only[Gv,↓C2,Gp,simprocAttr,GH,Ae DD 258,n]
     all_goals exact YT
   ·rw[if_neg m];have o:((a.tall:Int)<b.tall)=False:=eq_false O;have n:=Rb (a:=a) (x:=x) (y:=y) (b:=b) (k:=k) (v:=v) (r:=r) i;simp only[Tr.rotR];simp only[Gv,↓C2,Gp,simprocAttr,GH,Ae DD 256,j,e,g]
    (refine aB (Al ?_) ?_;first|rfl|simp[AH,Ay,GK,Ai,Ac])
    simp only[Gv,↓C2,Gp,simprocAttr,GH,d,Ae DD 256,c,z]
    (refine aB (Al ?_) ?_;first|rfl|simp[AH,Ay,GK,Ai,Ac])
    simp only[Gv,↓C2,Gp,simprocAttr,GH,o,Ae DD 258,n]
    all_goals exact YT
 ·rw[if_neg c1];have d:((1:Int)<(l.tall:Int)-r.tall)=False:=eq_false O;by_cases t:l.tall+1<r.tall
  ·rw[if_pos t];have d3:((l.tall:Int)-r.tall< -1)=True:=eq_true O;cases r with
   |nil=>simp[Tr.tall]at t
   |node a x y b=>
    have c:=CR a;have z:=CR b;simp only[Tr.cnt,Tr.wgt]at h;simp only;by_cases m:b.tall<a.tall
    ·rw[if_pos m];have o:((b.tall:Int)<a.tall)=True:=eq_true O;cases a with
     |nil=>simp[Tr.tall]at m
     |node p q s u=>
      simp only[Tr.cnt,Tr.wgt]at h;have w:=Rb (a:=p) (x:=q) (y:=s) (b:=u) (k:=x) (v:=y) (r:=b) ⟨Xg,Xf⟩;have f:=GM (l:=l) (k:=k) (v:=v) (r:= .node p q s (.node u x y b)) ⟨Xg,Xf⟩;have n:=Rc (l:=l) (k:=k) (v:=v) (a:=p) (x:=q) (y:=s) (b:= .node u x y b) ⟨Xg,Xf⟩;simp only[Tr.rotL,Tr.rotR];simp only[Gv,↓C2,Gp,simprocAttr,GH,Ae DD 256,j,e,g]
      (refine aB (Al ?_) ?_;first|rfl|simp[AH,Ay,GK,Ai,Ac])
      simp only[Gv,↓C2,Gp,simprocAttr,GH,d,d3,Ae DD 256,c,z]
      (refine aB (Al ?_) ?_;first|rfl|simp[AH,Ay,GK,Ai,Ac])
      simp only[Gv,↓C2,Gp,simprocAttr,GH,o,Ae DD 258,Ae DD 202,w,f]
      (refine aB (Al ?_) ?_;first|rfl|simp[AH,Ay,GK,Ai,Ac])
      simp only[Gv,↓C2,Gp,simprocAttr,GH,Ae DD 257,n]
      all_goals exact YT
    ·rw[if_neg m];have o:((b.tall:Int)<a.tall)=False:=eq_false O;have n:=Rc (l:=l) (k:=k) (v:=v) (a:=a) (x:=x) (y:=y) (b:=b) i;simp only[Tr.rotL];simp only[Gv,↓C2,Gp,simprocAttr,GH,Ae DD 256,j,e,g]
     (refine aB (Al ?_) ?_;first|rfl|simp[AH,Ay,GK,Ai,Ac])
     simp only[Gv,↓C2,Gp,simprocAttr,GH,d,d3,Ae DD 256,c,z]
     (refine aB (Al ?_) ?_;first|rfl|simp[AH,Ay,GK,Ai,Ac])
     simp only[Gv,↓C2,Gp,simprocAttr,GH,o,Ae DD 257,n]
     all_goals exact YT
  ·rw[if_neg t];have d3:((l.tall:Int)-r.tall< -1)=False:=eq_false O;simp only[Gv,↓C2,Gp,simprocAttr,GH,Ae DD 256,j,e,g]
   (refine aB (Al ?_) ?_;first|rfl|simp[AH,Ay,GK,Ai,Ac])
   simp only[Gv,↓C2,Gp,simprocAttr,GH,d,d3]
   all_goals exact YT
def Nk:=y2 f233 [(2,[(19,3),(19,7),(19,11)]),(4,[(7,11),(7,15),(7,19)])] []
def Nn:=y2 f138 [(5,[(6,10),(6,14),(6,18)]),(7,[(18,3),(18,7),(18,11)])] []
def Nl:=y2 f158 [] []
def aBN:=y2 f159 [] []
def Nm:=y2 f157 [] []
def aTX(l r:Tr)(k v:Bs):l.tall+r.tall<iP [GF l,.str k,.str v,GF r]:=by
 simp only[iP,D.dep.D.depL,D.dep,IC];omega
def MC(G:List D->Option D):Gq:=Ap [(256,Ac dF),(202,Ac Iz),(203,Ac N_),(233,Ac G)]
def dG:=RT MC Nk [.t 8] 72
def aAs:Kq dG 233:=lH (Aj func233) λG h=>Aa gG (Aa MY (Aa gH (Aa h Ad)))
def aJS:∀(n:Nat)(l:Tr)(k v:Bs)(r:Tr),l.tall+r.tall<n->Vg (.node l k v r)->jW MC Nk [.t 8] 72 n [GF l,.str k,.str v,GF r]=some (GF (Tr.join l k v r))
 |0,l,k,v,r,h,_=>O
 |n+1,l,k,v,r,hn,h=>by
  show RF (MC (jW MC Nk [.t 8] 72 n)) Nk [.t 8] 72 _=_;refine Am (Qa rfl) ?_;have ih:=aJS n;generalize jW MC Nk [.t 8] 72 n=G at ih ⊢;have e:MC G 256=some (Ac dF):=rfl;have c:MC G 202=some (Ac Iz):=rfl;have d:MC G 203=some (Ac N_):=rfl;have f:MC G 233=some (Ac G):=rfl;have j:=CR l;have p:=CR r;have m1:=Tr.tall_cnt l;have m2:=Tr.tall_cnt r;simp only[Vg,Tr.cnt,Tr.wgt]at h;have w:IntKind.i64.wrap ((r.tall:Int)+1)=(r.tall:Int)+1:=GS O O;have e2:IntKind.i64.wrap ((l.tall:Int)+1)=(l.tall:Int)+1:=GS O O;unfold Nk Tr.join;by_cases c1:r.tall+1<l.tall
  ·rw[if_pos c1];have q:((r.tall:Int)+1<l.tall)=True:=eq_true O;cases l with
   |nil=>simp[Tr.tall]at c1
   |node a x y b=>
    simp only[Tr.cnt,Tr.wgt]at h;have o:b.tall+r.tall<n:=by simp only[Tr.tall]at hn;omega
    have m:=ih b k v r o ⟨Xg,Xf⟩;have g:=Tr.cnt_join b k v r;have s:=Tr.wgt_join b k v r;have i:=GM (l:=a) (k:=x) (v:=y) (r:=Tr.join b k v r) ⟨O,O⟩;have i3:=Iu a x y (Tr.join b k v r) ⟨Xg,Xf⟩;simp only;simp only[Gv,↓C2,Gp,simprocAttr,GH,Ab e,j,p,w,q,Ab f,Ab c,Ab d,m,i,i3]
    (refine aB (Al ?_) ?_;first|rfl|simp[AH,Ay,GK,Ai,Ac])
    simp only[Gv,↓C2,Gp,simprocAttr,GH]
    all_goals exact YT
  ·rw[if_neg c1];have q:((r.tall:Int)+1<l.tall)=False:=eq_false O;by_cases u:l.tall+1<r.tall
   ·rw[if_pos u];have z:((l.tall:Int)+1<r.tall)=True:=eq_true O;cases r with
    |nil=>simp[Tr.tall]at u
    |node a x y b=>
     simp only[Tr.cnt,Tr.wgt]at h;have o:l.tall+a.tall<n:=by simp only[Tr.tall]at hn;omega
     have m:=ih l k v a o ⟨Xg,Xf⟩;have g:=Tr.cnt_join l k v a;have s:=Tr.wgt_join l k v a;have i:=GM (l:=Tr.join l k v a) (k:=x) (v:=y) (r:=b) ⟨O,O⟩;have i3:=Iu (Tr.join l k v a) x y b ⟨Xg,Xf⟩;simp only;simp only[Gv,↓C2,Gp,simprocAttr,GH,Ab e,j,p,w,e2,q,z,Ab f,Ab c,Ab d,m,i,i3]
     (refine aB (Al ?_) ?_;first|rfl|simp[AH,Ay,GK,Ai,Ac])
     simp only[Gv,↓C2,Gp,simprocAttr,GH]
     all_goals exact YT
   ·rw[if_neg u];have z:((l.tall:Int)+1<r.tall)=False:=eq_false O;have i:=GM (l:=l) (k:=k) (v:=v) (r:=r) ⟨O,O⟩;simp only[Gv,↓C2,Gp,simprocAttr,GH,Ab e,j,p,w,e2,q,z,Ab c,i]
    all_goals exact YT
def Rd(l:Tr)(k v:Bs)(r:Tr)(h:Vg (.node l k v r)):dG [GF l,.str k,.str v,GF r]=some (GF (Tr.join l k v r)):=aJS _ l k v r (aTX l r k v) h
def Uc{a b:Bs}:(CE a b<0)=(GN a b=true):=by
 unfold CE GN;by_cases h:Op.bytesLess a b=true
 ·rw[if_pos h,h];exact propext ⟨λ_=>rfl,λ_=>O⟩
 ·rw[if_neg h];refine propext ⟨λz=>?_,λz=>absurd z h⟩;split at z<;>omega
def UK{a b:Bs}:(0<CE a b)=(GN b a=true):=by
 unfold CE;by_cases h:Op.bytesLess a b=true
 ·rw[if_pos h];have:=CC (a:=a) (b:=b) h;simp only[this];exact propext ⟨λh=>O,λh=>Xc⟩
 ·rw[if_neg h];by_cases e:a=b
  ·subst e;rw[if_pos rfl,CT];exact propext ⟨λh=>O,λh=>Xc⟩
  ·rw[if_neg e];have:=Lk e;have o:GN a b=false:=by simpa using h
   rw[o]at this;have z:GN b a=true:=by
    cases hh:GN b a with
    |true=>rfl
    |false=>rw[hh]at this;cases this
   rw[z];exact propext ⟨λ_=>rfl,λ_=>O⟩
def MD(G:List D->Option D):Gq:=Ap [(62,Ac N7),(202,Ac Iz),(203,Ac N_),(138,Ac G)]
def aDy:=RT MD Nn [.t 6] 78
def aOf:Kq aDy 138:=lH (Aj func138) λG h=>Aa lS (Aa MY (Aa gH (Aa h Ad)))
def Mu(k v:Bs):∀t:Tr,(t.put k v).cnt<=1+t.cnt∧(t.put k v).wgt<=4+k.length+v.length+t.wgt
 | .nil=>by simp[Tr.put,Tr.cnt,Tr.wgt]
 | .node l x y r=>by
  have u:=Mu k v l;have z:=Mu k v r;unfold Tr.put;split
  ·rw[Tr.cnt_level,Tr.wgt_level];simp only[Tr.cnt,Tr.wgt];omega
  split
  ·rw[Tr.cnt_level,Tr.wgt_level];simp only[Tr.cnt,Tr.wgt];omega
  ·rename_i c1 m;have e:k=x:=by
    by_cases e:k=x
    ·exact e
    ·have:=Lk e;simp_all
   subst e;simp only[Tr.cnt,Tr.wgt];omega
def aJV:∀(n:Nat)(t:Tr)(k v:Bs),t.tall<n->t.cnt<=800000->t.wgt+k.length+v.length<=800000000000->jW MD Nn [.t 6] 78 n [GF t,.str k,.str v]=some (GF (t.put k v))
 |0,t,k,v,h,_,_=>O
 |n+1,t,k,v,hn,hc,hw=>by
  show RF (MD (jW MD Nn [.t 6] 78 n)) Nn [.t 6] 78 _=_;refine Am (Qa rfl) ?_;have ih:=aJV n;generalize jW MD Nn [.t 6] 78 n=G at ih ⊢;have j:MD G 62=some (Ac N7):=rfl;have c:MD G 202=some (Ac Iz):=rfl;have d:MD G 203=some (Ac N_):=rfl;have a:MD G 138=some (Ac G):=rfl;unfold Nn;cases t with
  |nil=>
   have m:=GM (l:= .nil) (k:=k) (v:=v) (r:= .nil) ⟨by simp[Tr.cnt],by simp only[Tr.wgt]at hw ⊢;omega⟩;rw[IB]at m;simp only[Tr.put];simp only[Gv,↓C2,Gp,simprocAttr,GH,bne_self_eq_false,Ab c,m]
   all_goals exact YT
  |node l x y r=>
   simp only[Tr.cnt,Tr.wgt,Tr.tall]at hn hc hw;have z:N7 [.str k,.str x]=some (.int .i64 (CE k x)):=rfl;have f:=Mu k v l;have p:=Mu k v r;unfold Tr.put;by_cases c1:GN k x=true
   ·rw[if_pos c1];have q:(CE k x<0)=True:=by rw[Uc];exact eq_true c1
    have m:=ih l k v O O O;have i:=GM (l:=l.put k v) (k:=x) (v:=y) (r:=r) ⟨O,O⟩;have w:=Iu (l.put k v) x y r ⟨Xg,Xf⟩;simp only[Gv,↓C2,Gp,simprocAttr,GH,Ab j,z,q,Ab a,Ab c,Ab d,m,i,w]
    (refine aB (Al ?_) ?_;first|rfl|simp[AH,Ay,GK,Ai,Ac])
    simp only[Gv,↓C2,Gp,simprocAttr,GH]
    all_goals exact YT
   ·rw[if_neg c1];have q:(CE k x<0)=False:=by rw[Uc];exact eq_false c1
    by_cases u:GN x k=true
    ·rw[if_pos u];have o:(0<CE k x)=True:=by rw[UK];exact eq_true u
     have m:=ih r k v O O O;have i:=GM (l:=l) (k:=x) (v:=y) (r:=r.put k v) ⟨O,O⟩;have w:=Iu l x y (r.put k v) ⟨Xg,Xf⟩;simp only[Gv,↓C2,Gp,simprocAttr,GH,Ab j,z,q,o,Ab a,Ab c,Ab d,m,i,w]
     (refine aB (Al ?_) ?_;first|rfl|simp[AH,Ay,GK,Ai,Ac])
     simp only[Gv,↓C2,Gp,simprocAttr,GH]
     all_goals exact YT
    ·rw[if_neg u];have o:(0<CE k x)=False:=by rw[UK];exact eq_false u
     have i:=GM (l:=l) (k:=k) (v:=v) (r:=r) ⟨O,O⟩;simp only[Gv,↓C2,Gp,simprocAttr,GH,Ab j,z,q,o,Ab c,i]
     (refine aB (Al ?_) ?_;first|rfl|simp[AH,Ay,GK,Ai,Ac])
     simp only[Gv,↓C2,Gp,simprocAttr,GH]
     all_goals exact YT
def aDx(t:Tr)(k v:Bs)(y:t.cnt<=800000)(z:t.wgt+k.length+v.length<=800000000000):aDy [GF t,.str k,.str v]=some (GF (t.put k v)):=
 aJV _ t k v Yx y z
def aBW:=y2 f83 [] []
def aBV:=y2 f89 [] []
def aBU:=y2 f90 [] []
def Mn:=y3 f39 2 [] []
def aB8:=y2 f39 [] [(2,Mn)]
def Mp:=y3 f27 2 [] []
def aCd:=y2 f27 [] [(2,Mp)]
def Ml:=y3 f49 3 [] []
def aB4:=y2 f49 [] [(3,Ml)]
def Mk:=y3 f50 4 [] []
def aB3:=y2 f50 [] [(4,Mk)]
def aBQ:=y2 f102 [] []
def aBP:=y2 f103 [] []
def Mg:=y3 f160 2 [] []
def aBM:=y2 f160 [] [(2,Mg)]
def aB2:=y2 f51 [] []
def NY(G:List D->Option D):Gq:=Ap [(202,Ac Iz),(203,Ac N_),(158,Ac G)]
def oS:=RT NY Nl [.t 2,.t 3,.t 4] 48
def aAv:Kq oS 158:=lH (Aj func158) λG h=>Aa MY (Aa gH (Aa h Ad))
def aOT(z:Bs×Bs×Tr):D:= .tup [.str z.1,.str z.2.1,GF z.2.2]
def aJT:∀(n:Nat)(l:Tr)(k v:Bs)(r:Tr),(Tr.node l k v r).tall<n->Vg (.node l k v r)->jW NY Nl [.t 2,.t 3,.t 4] 48 n [GF (.node l k v r)]=some (aOT (Tr.first l k v r))
 |0,l,k,v,r,h,_=>O
 |n+1,l,k,v,r,hn,h=>by
  show RF (NY (jW NY Nl [.t 2,.t 3,.t 4] 48 n)) Nl [.t 2,.t 3,.t 4] 48 _=_;refine Am (Qa rfl) ?_;have ih:=aJT n;generalize jW NY Nl [.t 2,.t 3,.t 4] 48 n=G at ih ⊢;have c:NY G 202=some (Ac Iz):=rfl;have d:NY G 203=some (Ac N_):=rfl;have e:NY G 158=some (Ac G):=rfl;simp only[Vg,Tr.cnt,Tr.wgt]at h;unfold Nl Tr.first;cases l with
  |nil=>
   unfold aOT;simp only[Gv,↓C2,Gp,simprocAttr,GH,bne_self_eq_false]
   (refine aB (Al ?_) ?_;first|rfl|simp[AH,Ay,GK,Ai,Ac])
   simp only[Gv,↓C2,Gp,simprocAttr,GH]
   all_goals exact YT
  |node a x y b=>
   simp only[Tr.cnt,Tr.wgt]at h;have m:=ih a x y b (by simp only[Tr.tall]at hn ⊢;omega) ⟨Xg,Xf⟩;have g:=Tr.cnt_first a x y b;have f:=Tr.wgt_first a x y b;unfold aOT at m ⊢;have i:=GM (l:=(Tr.first a x y b).2.2) (k:=k) (v:=v) (r:=r) ⟨O,O⟩;have w:=Iu (Tr.first a x y b).2.2 k v r ⟨Xg,Xf⟩;simp only[Gv,↓C2,Gp,simprocAttr,GH,Ab e,m,Ab c,Ab d,i,w]
   (refine aB (Al ?_) ?_;first|rfl|simp[AH,Ay,GK,Ai,Ac])
   simp only[Gv,↓C2,Gp,simprocAttr,GH]
   all_goals exact YT
def dI(l:Tr)(k v:Bs)(r:Tr)(h:Vg (.node l k v r)):oS [GF (.node l k v r)]=some (.tup [.str (Tr.first l k v r).1,.str (Tr.first l k v r).2.1,GF (Tr.first l k v r).2.2]):=
 aJT _ l k v r (by simp only[iP,D.dep.D.depL,IC];omega) h
def aDe:=Ap [(158,Ac oS),(233,Ac dG)]
def oQ:=RF aDe aBN [.t 4] 22
def aAu:Kq oQ 159:=An (Aj func159) (Aa aAv (Aa aAs Ad))
def dH(l r:Tr)(p:l.cnt+r.cnt<=900000)(v:l.wgt+r.wgt<=900000000000):oQ [GF l,GF r]=some (GF (Tr.both l r)):=by
 refine Am (Qa rfl) ?_;unfold aBN;cases r with
 |nil=>
  simp only[Gv,↓C2,Gp,simprocAttr,GH,bne_self_eq_false]
  all_goals exact YT
 |node a x y b=>
  simp only[Tr.cnt,Tr.wgt]at p v;have m:=dI a x y b ⟨Xg,Xf⟩;have g:=Tr.cnt_first a x y b;have k:=Tr.wgt_first a x y b;have i:=Rd l (Tr.first a x y b).1 (Tr.first a x y b).2.1 (Tr.first a x y b).2.2 ⟨Xg,Xf⟩;unfold Tr.both;simp only;simp only[Gv,↓C2,Gp,simprocAttr,GH,Ae aDe 158,m,Ae aDe 233,i]
  all_goals exact YT
def P8(G:List D->Option D):Gq:=Ap [(233,Ac dG),(157,Ac G)]
def oT:=RT P8 Nm [.t 4,.t 5] 66
def aAw:Kq oT 157:=lH (Aj func157) λG h=>Aa aAs (Aa h Ad)
def aFl(z:Tr×Tr):D:= .tup [GF z.1,GF z.2]
def aJU:∀(n:Nat)(t:Tr)(q:Bs),t.tall<n->Vg t->jW P8 Nm [.t 4,.t 5] 66 n [GF t,.str q]=some (aFl (t.split q))
 |0,t,q,h,_=>O
 |n+1,t,q,hn,h=>by
  show RF (P8 (jW P8 Nm [.t 4,.t 5] 66 n)) Nm [.t 4,.t 5] 66 _=_;refine Am (Qa rfl) ?_;have ih:=aJU n;generalize jW P8 Nm [.t 4,.t 5] 66 n=G at ih ⊢;have f:P8 G 233=some (Ac dG):=rfl;have a:P8 G 157=some (Ac G):=rfl;unfold Nm;cases t with
  |nil=>
   unfold Tr.split aFl;simp only[Gv,↓C2,Gp,simprocAttr,GH,bne_self_eq_false]
   all_goals exact YT
  |node l x y r=>
   simp only[Vg,Tr.cnt,Tr.wgt,Tr.tall]at hn h;unfold Tr.split;by_cases c1:GN x q=true
   ·rw[if_pos c1];have m:=ih r q O ⟨O,O⟩;have g:=Tr.cnt_split q r;have k:=Tr.wgt_split q r;have i:=Rd l x y (r.split q).1 ⟨Xg,Xf⟩;unfold aFl at m ⊢;have w:AM .lss (.str x) (.str q)=some (.bool (GN x q)):=rfl;simp only[Gv,↓C2,Gp,simprocAttr,GH,w,c1,Ab a,m,Ab f,i]
    (refine aB (Al ?_) ?_;first|rfl|simp[AH,Ay,GK,Ai,Ac])
    simp only[Gv,↓C2,Gp,simprocAttr,GH]
    all_goals exact YT
   ·rw[if_neg c1];have c1:GN x q=false:=by simpa using c1
    have m:=ih l q O ⟨O,O⟩;have g:=Tr.cnt_split q l;have k:=Tr.wgt_split q l;have i:=Rd (l.split q).2 x y r ⟨Xg,Xf⟩;unfold aFl at m ⊢;have w:AM .lss (.str x) (.str q)=some (.bool (GN x q)):=rfl;simp only[Gv,↓C2,Gp,simprocAttr,GH,w,c1,Ab a,m,Ab f,i]
    (refine aB (Al ?_) ?_;first|rfl|simp[AH,Ay,GK,Ai,Ac])
    simp only[Gv,↓C2,Gp,simprocAttr,GH]
    all_goals exact YT
def Rf(t:Tr)(q:Bs)(h:Vg t):oT [GF t,.str q]=some (.tup [GF (t.split q).1,GF (t.split q).2]):=
 aJU _ t q Yx h
def aMt:=Ap [(104,Ac MF)]
def aMH:=RF aMt aBQ [.t 2] 6
def aOh:Kq aMH 102:=An (Aj func102) (Aa Ue Ad)
def aDA(t:Tr):aMH [.agg [GF t]]=some (.int .i64 (t.cnt:Nat)):=by
 refine Am (Qa rfl) ?_;unfold aBQ;have h:=Iv t;simp only[Gv,↓C2,Gp,simprocAttr,GH,Ae aMt 104,h]
 all_goals exact YT
def aMs:=Ap [(172,Ac aDs)]
def aMG:=RF aMs aBP [.t 2] 6
def aOg:Kq aMG 103:=An (Aj func103) (Aa aAt Ad)
def aDz(t:Tr):aMG [.agg [GF t]]=some (.int .i64 (t.wgt:Nat)):=by
 refine Am (Qa rfl) ?_;unfold aBP;have h:=Re t;simp only[Gv,↓C2,Gp,simprocAttr,GH,Ae aMs 172,h]
 all_goals exact YT
def aMu:=Ap [(138,Ac aDy)]
def oV:=RF aMu aBW [.cell (some 1) 6] 13
def aAy:Kq oV 83:=An (Aj func83) (Aa aOf Ad)
def MG(t:Tr)(k v:Bs)(y:t.cnt<=800000)(z:t.wgt+k.length+v.length<=800000000000):oV [.agg [GF t],.str k,.str v]=some (.agg [GF (t.put k v)]):=by
 refine Am (Qa rfl) ?_;unfold aBW;have h:=aDx t k v y z;simp only[Gv,↓C2,Gp,simprocAttr,GH,Ae aMu 138,h]
 all_goals exact YT
def Pp{S:Gq}{q:Bs}{Q:Ex->St->Prop}(j:S 62=some (Ac N7)):∀(t:Tr)(w:St) g,w.s 1= .str q->w.s 6=GF t->(∀v p,t.get q=some v->p.s 4= .str v->p.s 5= .bool true->Q .ret p)->(t.get q=none->∀p,Q (.exit 0) p)->A5 S [] Mp Q w g
 | .nil,w,g,h1,h6,hr,he=>by
  refine Af Mp.eq_1 ?_;simp only[Gv,↓C2,Gp,simprocAttr,GH,h1,h6,bne_self_eq_false];exact he rfl _
 | .node l x y r,w,g,h1,h6,hr,he=>by
  have a:=Pp (q:=q) (Q:=Q) j l;have i:=Pp (q:=q) (Q:=Q) j r;have z:N7 [.str q,.str x]=some (.int .i64 (CE q x)):=rfl;refine Af Mp.eq_1 ?_;obtain⟨e,n,u⟩:=w;simp only at h1 h6;unfold Tr.get at hr he;by_cases c1:GN q x=true
  ·rw[if_pos c1]at hr he;have d:(CE q x<0)=True:=by rw[Uc];exact eq_true c1
   simp only[Gv,↓C2,Gp,simprocAttr,GH,h1,h6,Lz,Ab j,z,d];exact a _ _ h1 rfl hr he
  ·rw[if_neg c1]at hr he;have d:(CE q x<0)=False:=by rw[Uc];exact eq_false c1
   by_cases m:GN x q=true
   ·rw[if_pos m]at hr he;have o:(0<CE q x)=True:=by rw[UK];exact eq_true m
    simp only[Gv,↓C2,Gp,simprocAttr,GH,h1,h6,Ab j,z,d,o];exact i _ _ h1 rfl hr he
   ·rw[if_neg m]at hr he;have o:(0<CE q x)=False:=by rw[UK];exact eq_false m
    simp only[Gv,↓C2,Gp,simprocAttr,GH,h1,h6,Ab j,z,d,o];exact hr y _ rfl rfl rfl
def aME:=Ap [(62,Ac N7)]
def aD6:=RF aME aCd [.t 4,.t 5] 36
def aAB:Kq aD6 27:=An (Aj func27) (Aa lS Ad)
def dQ(t:Tr)(q:Bs):aD6 [.agg [GF t],.str q]=some (.tup [.str ((t.get q).getD []),.bool (t.get q).isSome]):=by
 refine Am (Qa rfl) ?_;have j:aME 62=some (Ac N7):=rfl;unfold aCd;simp only[Gv,↓C2,Gp,simprocAttr,GH];refine Pp (q:=q) j t _ _ rfl rfl (λv x p o m=>?_) (λp x=>?_)
 ·rw[p];simp only[Gv,↓C2,Gp,simprocAttr,o,m]
  all_goals exact YT
 ·rw[p];simp only[Gv,↓C2,Gp,simprocAttr]
  all_goals exact YT
def Po{S:Gq}{q:Bs}{Q:Ex->St->Prop}(z:S 104=some (Ac MF)):∀(t:Tr)(r:Nat)(w:St) g,t.cnt<=900000->r+t.cnt<=900000->w.s 1= .str q->w.s 5= .int .i64 (r:Int)->w.s 6=GF t->(∀p,p.s 5= .int .i64 ((r+t.rank q:Nat):Int)->Q (.exit 0) p)->A5 S [] Ml Q w g
 | .nil,r,w,g,hc,hr,h1,h5,h6,he=>by
  refine Af Ml.eq_1 ?_;simp only[Gv,↓C2,Gp,simprocAttr,GH,h1,h6,bne_self_eq_false];exact he _ h5
 | .node l x y t,r,w,g,hc,hr,h1,h5,h6,he=>by
  have m:=Po (q:=q) (Q:=Q) z l;have d:=Po (q:=q) (Q:=Q) z t;have a:=Iv l;simp only[Tr.cnt]at hc hr;have j:IntKind.i64.wrap (1+(l.cnt:Int))=((1+l.cnt:Nat):Int):=Xh
  have f:IntKind.i64.wrap ((r:Int)+((1+l.cnt:Nat):Int))=((r+(1+l.cnt):Nat):Int):=Xh
  refine Af Ml.eq_1 ?_;obtain⟨e,n,u⟩:=w;simp only at h1 h5 h6;have i:AM .lss (.str x) (.str q)=some (.bool (GN x q)):=rfl;unfold Tr.rank at he;by_cases c1:GN x q=true
  ·rw[if_pos c1]at he;simp only[Gv,↓C2,Gp,simprocAttr,GH,h1,h5,h6,Lz,i,c1,Ab z,a,j,f];exact d (r+(1+l.cnt)) _ _ O O h1 rfl rfl (λp h=>he p (by rw[h];congr 2;omega))
  ·rw[if_neg c1]at he;have c1:GN x q=false:=by simpa using c1
   simp only[Gv,↓C2,Gp,simprocAttr,GH,h1,h5,h6,Lz,i,c1];exact m r _ _ O O h1 h5 rfl he
def aMB:=Ap [(104,Ac MF)]
def aML:=RF aMB aB4 [.t 4] 34
def aOv:Kq aML 49:=An (Aj func49) (Aa Ue Ad)
def aDT(t:Tr)(q:Bs)(y:t.cnt<=900000):aML [.agg [GF t],.str q]=some (.int .i64 (t.rank q:Nat)):=by
 refine Am (Qa rfl) ?_;have z:aMB 104=some (Ac MF):=rfl;unfold aB4;simp only[Gv,↓C2,Gp,simprocAttr,GH];refine Po (q:=q) z t 0 _ _ y O rfl rfl rfl (λx h=>?_);rw[Ql]at h;simp only[Gv,↓C2,Gp,simprocAttr,h]
 all_goals exact YT
def atD(z:Option (Bs×Bs)):D:= .tup [.str (z.getD ([],[])).1,.str (z.getD ([],[])).2,.bool z.isSome]
def Pn{S:Gq}{Q:Ex->St->Prop}(z:S 104=some (Ac MF)):∀(t:Tr)(i:Nat)(w:St) g,t.cnt<=900000->i<=900000->w.s 1= .int .i64 (i:Int)->w.s 7=GF t->(∀k v p,t.at_ i=some (k,v)->p.s 4= .str k->p.s 5= .str v->p.s 6= .bool true->Q .ret p)->(t.at_ i=none->∀p,Q (.exit 0) p)->A5 S [] Mk Q w g
 | .nil,i,w,g,hc,hi,h1,h7,hr,he=>by
  refine Af Mk.eq_1 ?_;simp only[Gv,↓C2,Gp,simprocAttr,GH,h1,h7,bne_self_eq_false];exact he rfl _
 | .node l x y r,i,w,g,hc,hi,h1,h7,hr,he=>by
  have b:=Pn (Q:=Q) z l;have c:=Pn (Q:=Q) z r;have a:=Iv l;simp only[Tr.cnt]at hc;have j:IntKind.i64.wrap ((l.cnt:Int)+1)=(l.cnt:Int)+1:=GS O O;refine Af Mk.eq_1 ?_;obtain⟨e,q,u⟩:=w;simp only at h1 h7;unfold Tr.at_ at hr he;by_cases c1:i<l.cnt
  ·rw[if_pos c1]at hr he;have d:((i:Int)<l.cnt)=True:=eq_true O;simp only[Gv,↓C2,Gp,simprocAttr,GH,h1,h7,Lz,Ab z,a,d];exact b i _ _ O hi h1 rfl hr he
  ·rw[if_neg c1]at hr he;have d:((i:Int)<l.cnt)=False:=eq_false O;by_cases m:l.cnt<i
   ·rw[if_pos m]at hr he;have o:((l.cnt:Int)<i)=True:=eq_true O;have f:IntKind.i64.wrap ((i:Int)-((l.cnt:Int)+1))=((i-(l.cnt+1):Nat):Int):=by rw[GS O O];omega
    simp only[Gv,↓C2,Gp,simprocAttr,GH,h1,h7,Lz,Ab z,a,d,o,j,f];exact c (i-(l.cnt+1)) _ _ O O rfl rfl hr he
   ·rw[if_neg m]at hr he;have o:((l.cnt:Int)<i)=False:=eq_false O;simp only[Gv,↓C2,Gp,simprocAttr,GH,h1,h7,Lz,Ab z,a,d,o]
    (refine aB (Al ?_) ?_;first|rfl|simp[AH,Ay,GK,Ai,Ac])
    simp only[Gv,↓C2,Gp,simprocAttr,GH];exact hr x y _ rfl rfl rfl rfl
def aMA:=Ap [(104,Ac MF)]
def aMK:=RF aMA aB3 [.t 4,.t 5,.t 6] 48
def aOu:Kq aMK 50:=An (Aj func50) (Aa Ue Ad)
def aDS(t:Tr)(i:Nat)(y:t.cnt<=900000)(hi:i<=900000):aMK [.agg [GF t],.int .i64 (i:Nat)]=some (atD (t.at_ i)):=by
 refine Am (Qa rfl) ?_;have z:aMA 104=some (Ac MF):=rfl;unfold aB3;have f:((i:Int)<0)=False:=eq_false O;simp only[Gv,↓C2,Gp,simprocAttr,GH,f];refine Pn z t i _ _ y hi rfl rfl (λk v x p o m e=>?_) (λp x=>?_)
 ·rw[p];unfold atD;simp only[Gv,↓C2,Gp,simprocAttr,o,m,e]
  all_goals exact YT
 ·rw[p];unfold atD;simp only[Gv,↓C2,Gp,simprocAttr]
  all_goals exact YT
def cK(x:UInt8):∀l:Bs,Tr.beyB (l++[x])=if x<255 then some (l++[x+1])else Tr.beyB l
 |[]=>by
  show(match Tr.beyB []with|some e=>some (x::e)|none=>if x<255 then some [x+1]else none)=_;rfl
 |y::l=>by
  have ih:=cK x l;show(match Tr.beyB (l++[x])with|some e=>some (y::e)|none=>if y<255 then some [y+1]else none)=_;rw[ih];by_cases c:x<255
  ·rw[if_pos c,if_pos c];rfl
  ·rw[if_neg c,if_neg c];rfl
def Wo{S:Gq}{p:Bs}{Q:Ex->St->Prop}(t:p.length<=1000000):∀(j:Nat)(y:St) g,j<=p.length->y.s 0= .str p->y.s 4= .int .i64 ((j:Int)-1)->(∀e r,Tr.beyB (p.take j)=some e->r.s 2= .str e->r.s 3= .bool true->Q .ret r)->(Tr.beyB (p.take j)=none->∀r,Q (.exit 0) r)->A5 S [] Mg Q y g
 |0,y,g,hj,h0,h4,hr,he=>by
  refine Af Mg.eq_1 ?_;have z:y.s 4= .int .i64 (-1):=h4;have d:((0:Int)<=-1)=False:=eq_false V;simp only[Gv,↓C2,Gp,simprocAttr,h0,z,d];exact he rfl _
 |j+1,y,g,hj,h0,h4,hr,he=>by
  have ih:=Wo (S:=S) (Q:=Q) t j;refine Af Mg.eq_1 ?_;obtain⟨a,n,u⟩:=y;simp only at h0 h4;have b:((j+1:Nat):Int)-1=(j:Int):=O
  rw[b]at h4;have d:((0:Int)<=(j:Int))=True:=eq_true O;have q:p[j]?=some (p[j]' O):=Qf O;generalize (p[j]' O)=x at q;have i:p.take (j+1)=p.take j++[x]:=by rw[Zb,q];rfl
  rw[i,cK]at hr he;have k:IntKind.i64.wrap ((j:Int)-1)=(j:Int)-1:=GS O O;by_cases c:x<255
  ·rw[if_pos c]at hr he;have c':x.toNat<255:=c;have o:((x.toNat:Int)<255)=True:=eq_true O;have v:IntKind.u8.wrap ((x.toNat:Int)+1)=((x.toNat+1:Nat):Int):=by
    show((x.toNat:Int)+1) % 256=_;omega
   have w:UInt8.ofNat (x.toNat+1)=x+1:=by
    apply UInt8.toNat_inj.1;rw[UInt8.toNat_ofNat',UInt8.toNat_add];rfl
   have qa:((j:Int)<=p.length)=True:=eq_true O;have f:AM .add (.str (p.take j)) (.str [x+1])=some (.str (p.take j++[x+1])):=Ir (by rw[Q5];simp only[Qb,Qh];omega);simp only[Gv,↓C2,Gp,simprocAttr,h0,h4,d,qa,q,o,v,w,Qm,QK,QY,and_self,f]
   (refine aB (Al ?_) ?_;first|rfl|simp[AH,Ay,GK,Ai,Ac])
   simp only[Gv,↓C2,Gp,simprocAttr];exact hr _ _ rfl rfl rfl
  ·rw[if_neg c]at hr he;have c':¬x.toNat<255:=c;have o:((x.toNat:Int)<255)=False:=eq_false O;simp only[Gv,↓C2,Gp,simprocAttr,h0,h4,d,q,o,k,Qm];exact ih _ _ O h0 rfl hr he
def aMz:=Ap [(105,Ac vG)]
def aMJ:=RF aMz aB2 [.t 4] 8
def aOt:Kq aMJ 51:=An (Aj func51) (Aa aJg Ad)
def aDR(s t:Bs):aMJ [.str s,.str t]=some (.bool (BQ s t)):=by
 refine Am (Qa rfl) ?_;unfold aB2;have h:vG [.str s,.str t]=some (.bool (BQ s t)):=rfl;simp only[Gv,↓C2,Gp,simprocAttr,Ae aMz 105,h]
 all_goals exact YT
theorem nI{a:Ak}:∀{l:Bs} {b:Ak},(Mv a b l).1=0->∀c∈l,Bb a (c.toNat:Int)=0
 |[],b,h,c,hc=>by cases hc
 |x::r,b,h,c,hc=>by
  unfold Mv at h;split at h
  ·omega
  ·rename_i u;rcases Qq.1 hc with rfl|hc
   ·exact Decidable.not_not.1 u
   ·exact nI h c hc
def NV{a:Ak}(h:B5 a=0){c:UInt8}(y:c∈Bu a.op):Bb a (c.toNat:Int)=0:=by
 grind [B5,nI]
def PR{a:Ak}(h:B5 a=0)(y:(112:UInt8)∈Bu a.op):AQ a.pa=0:=NV h y
def cC{a:Ak}(h:B5 a=0)(y:(113:UInt8)∈Bu a.op):AQ a.ot=0:=NV h y
def rP:∀op:Nat,9<=op->op<=18->(112:UInt8)∈Bu (op:Int):=by
 intro op u z;have:∀op,op<19->9<=op->(112:UInt8)∈Bu (op:Nat):=Xl
 exact this op O u
def aFL{a:Ak}(h:B5 a=0)(u:9<=a.op)(z:a.op<=18):AQ a.pa=0:=by
 have:=rP a.op.toNat O O;rw[QI O]at this;exact PR h this
def yT{a:Ak}(h:B5 a=0)(u:a.op=18):AQ a.ot=0:=by
 refine cC h ?_;rw[u];decide+kernel
theorem Cf{s:Bs}(h:AQ s=0):s.length<=64:=by
 grind [AQ]
def aRg{y:Ry}(h:Hh y=0):Hg y≠[]:=by
 unfold Hg;rw[if_pos h];intro e;have z:=eY y;cases y<;>simp[GZ,spJ,Lib.join]at e<;>(try split at e)<;>simp[]at e
def Gr(s:Bs):Prop:=∃y,Hh y=0∧vQ y∧s=Hg y
def Gr.ne{s:Bs}:Gr s->s≠[]:=λ⟨y,h,_,e⟩=>by rw[e];exact aRg h
def Vc(s:Bs):Prop:=∀c∈s,c≠32∧c≠44
def cB{s:Bs}(h:∀j,j<s.length->GP s j≠32∧GP s j≠44):Vc s:=λc y=>by
 obtain⟨j,q,rfl⟩:=QJ y;have:=h j q;unfold GP at this;rw[QO,Qf q]at this;simp only[Q6]at this;exact⟨λe=>by rw[e]at this;exact this.1 rfl,λe=>by rw[e]at this;exact this.2 rfl⟩
theorem sV{s:Bs}(h:Vc s):NN s 32=false∧NN s 44=false:=by
 constructor<;>(unfold NN;rw[Zm];intro c y;simp only[beq_iff_eq])
 ·exact(h c y).1
 ·exact(h c y).2
def fO{s:Bs}(h:Vc s)(u:s≠[])(z:s≠[45])(i:s.length<=64):T_ s=true:=by
 grind [T_,sV]
def fQ{s:Bs}{i:Nat}(hi:i<s.length)(h:ED (FI s i).1=true):1<=(FI s i).2∧∀j,i<=j->j<i+(FI s i).2->GP s j≠32∧GP s j≠44:=by
 grind [P_,Fw,FI,ED]
def NA{s:Bs}:∀(f p n:Nat),s.length<=p+f->D8 s f p n≠4->∀j,p<=j->j<s.length->GP s j≠32∧GP s j≠44
 |0,p,n,hf,h,j,h1,h2=>O
 |f+1,p,n,hf,h,j,h1,h2=>by
  unfold D8 at h;rw[if_pos O]at h;split at h
  ·rename_i i;obtain⟨v,y⟩:=fQ O i;by_cases q:j<p+(FI s p).2
   ·exact y j h1 q
   ·exact NA f _ _ O h j O h2
  ·exact absurd rfl h
def fI{s:Bs}(h:FE s=0):Vc s∧s≠[]∧s≠[45]:=by
 unfold FE at h;split at h
 ·cases h
 ·rename_i u;exact⟨cB λj q=>NA s.length 0 0 O (by rw[h];decide) j (Qi _) q,λe=>u (.inl e),λe=>u (.inr (.inr (.inr e)))⟩
theorem grade_parts:∀{l:List Bs} {w:Bool},Fo w l=some false->∀p∈l,FE p=0
 |[],w,h,p,hp=>by cases hp
 |x::r,w,h,p,hp=>by
  unfold Fo at h;split at h
  ·cases h
  ·rename_i u;have m:∀{w:Bool} {l:List Bs},Fo w l=some false->w=false:=by
    intro w l;induction l generalizing w with
    |nil=>intro h;simpa[Fo]using h
    |cons y t ih=>
     intro h;unfold Fo at h;split at h
     ·cases h
     ·grind
   rcases Qq.1 hp with rfl|hp
   ·grind [NH]
   ·exact grade_parts h p hp
def VQ{s:Bs}(h:AQ s=0):∀p∈splitC 47 s,FE p=0:=by
 grind [AQ,Ie,grade_parts]
def R8:∀(a b:Bs),splitC 47 (a++47::b)=splitC 47 a++splitC 47 b
 |[],b=>by
  show splitC 47 (47::b)=_
  conv=>lhs;unfold splitC
  rfl
 |c::r,b=>by
  have ih:=R8 r b;show splitC 47 (c::(r++47::b))=_
  conv=>lhs;unfold splitC
  conv=>rhs;arg 1;unfold splitC
  rw[ih];split
  ·rfl
  ·grind [splitC,IE]
def R9:∀(s:Bs),∃t,splitC 47 s=(BD s 47).1::t∧((BD s 47).2.2=true->(BD s 47).1.length+1<=s.length)∧((BD s 47).2.2=false->(BD s 47).1=s)
 |[]=>⟨[],rfl,λh=>by simp[BD,Lib.indexByte]at h,λ_=>rfl⟩
 |c::r=>by
  obtain⟨t,u,z,i⟩:=R9 r;by_cases y:c=47
  ·subst y;have e:Lib.indexByte (47::r) 47=0:=by unfold Lib.indexByte;simp
   refine⟨splitC 47 r,?_,?_,?_⟩
   ·simp_all [BD,splitC]
   ·grind [BD]
   ·grind [BD]
  ·have w:(c==47)=false:=by simpa using y
   unfold splitC;rw[if_neg y,u];refine⟨t,?_⟩;have e:Lib.indexByte (c::r) 47=if Lib.indexByte r 47==-1 then-1 else Lib.indexByte r 47+1:=by
    conv=>lhs;unfold Lib.indexByte
    rw[w];rfl
   rcases gL r 47 with e1|⟨e1,f⟩
   ·have n:BD r 47=(r,[],false):=by unfold BD;rw[e1];rfl
    have m:BD (c::r) 47=(c::r,[],false):=by unfold BD;rw[e,e1];rfl
    rw[n,m];exact⟨rfl,λh=>Xc,λ_=>rfl⟩
   ·have b:(Lib.indexByte r 47==-1)=false:=by rw[beq_eq_false_iff_ne];omega
    have g:Lib.indexByte (c::r) 47=Lib.indexByte r 47+1:=by rw[e,b];rfl
    generalize j:Lib.indexByte r 47=q at *;have v:(q+1).toNat=q.toNat+1:=O
    have n:BD r 47=(r.take q.toNat,r.drop (q.toNat+1),true):=by unfold BD;rw[j,if_neg O]
    have m:BD (c::r) 47=(c::r.take q.toNat,r.drop (q.toNat+1),true):=by unfold BD;rw[g,if_neg O,v];rfl
    rw[n,m];refine⟨rfl,λ_=>?_,λh=>Xc⟩;simp only[Qb,Q5];omega
def uF{s z:Bs}(h:Ci s z=true):CO s z=s∨s=z++47::CO s z:=by
 unfold Ci at h;unfold CO;by_cases k:z=[]
 ·simp_all
 ·rw[if_neg k]at h ⊢;rw[QA]at h;rw[if_pos h.1,if_pos h.2];right;have u:s.take z.length=z:=by simpa[BQ]using h.1
  have t:(s.drop z.length).take 1=[47]:=by simpa[BQ]using h.2
  have w:s=z++s.drop z.length:=by
   conv=>lhs;rw[←Q1 z.length s,u]
  have f:s.drop z.length=47::(s.drop z.length).drop 1:=by
   conv=>lhs;rw[←Q1 1 (s.drop z.length),t]
   rfl
  conv=>lhs;rw[w,f]
theorem iU{s z:Bs}(i:AQ s=0)(h:(B4 s z).2=true):T_ (B4 s z).1=true:=by
 have v:=Cf i;have d:=VQ i;have o:Ci s z=true:=by
  grind [B4]
 have w:=uF o;have hl:=Sk s z;obtain⟨t,j,f,n⟩:=R9 (CO s z);have qa:(BD (CO s z) 47).1∈splitC 47 s:=by
  rcases w with e|e
  ·simp_all
  ·rw[e,R8,←e,j];exact List.mem_append_right _ (Qp ..)
 obtain⟨c1,m,a⟩:=fI (d _ qa);unfold B4;rw[if_neg (by rw[o];decide)];split
 ·rename_i u;have:=f u;refine fO (λc y=>?_) U (λe=>?_) Xb
  ·rcases QQ.1 y with h|h
   ·exact c1 c h
   ·simp_all
  ·have:=congrArg ZS e;simp at this
 ·rename_i u;have:=n (by simpa using u);rw[this]at c1 m a;exact fO c1 m a (show(CO s z).length<=64 by omega)
def Pe{s:Bs}:∀(f p:Nat),s.length<=p+f->L3 s f p=true->∀j,p<=j->j<s.length->DI (GP s j)=true
 |0,p,hf,h,j,h1,h2=>O
 |f+1,p,hf,h,j,h1,h2=>by
  unfold L3 at h;rw[if_pos O,QA]at h;by_cases e:j=p
  ·rw[e];exact h.1
  ·exact Pe f (p+1) O h.2 j O h2
def aFX{s:Bs}(h:BI s=true):T_ s=true:=by
 unfold BI at h;simp only[QA,decide_eq_true_eq]at h;have y:∀j,j<s.length->DI (GP s j)=true:=λj q=>Pe s.length 0 O h.2 j (Qi _) q
 have o:∀j,j<s.length->GP s j≠32∧GP s j≠44∧GP s j≠45:=λj q=>by
  have:=y j q;unfold DI at this;simp only[Zx,decide_eq_true_eq]at this;omega
 refine fO (cB λj q=>⟨(o j q).1,(o j q).2.1⟩) (λe=>by rw[e]at h;simp at h) (λe=>?_) O;have:=(o 0 O).2.2;rw[e]at this;exact this rfl
def bZ{zs:List Bs}{x:Bs}(h:x∈Lib.compact zs):x∈zs:=by
 unfold Lib.compact Lib.compactUpTo at h;obtain⟨j,q,rfl⟩:=Qv.1 h;have u:=List.mem_range.1 (QR.1 q).1;rw[getElem!_pos _ _ (by simpa using u)];simp
def Tp{l:List Bs}{x:Bs}(h:x∈eW l):x∈l:=(ZD l _).mem_iff.1 h
theorem aPb{z:Bs}{l:List Bs}{x:Bs}(h:x∈nL z l):∃s∈l,(B4 s z).2=true∧(B4 s z).1=x:=by
 have:=Tp (bZ h);unfold FL at this;obtain⟨s,g,e⟩:=List.mem_filterMap.1 this;split at e
 ·simp_all
 ·cases e
def aPc(z:Bs)(l:List Bs):(nL z l).length<=l.length:=by
 unfold nL;refine QE (Lib.compact_length_le _) ?_;unfold eW;rw[Qt];exact Q8 _ _
theorem NG{l:List Bs}{s:Bs}(h:s∈BP l):AQ s=0:=by
 grind [BP,Dj,BX]
def qO(l:List Bs):(BP l).length<=l.length:=Q8 _ _
def aCw(z:Bs)(l:List Bs):(((nL z (BP l)).take 64).any λs=>!T_ s)=false:=by
 grind [aPb,iU,NG]
def rL(l:List Bs):0<=Ie l∧Ie l<=99:=by
 grind [Ie]
def IG(s:Bs):0<=AQ s∧AQ s<=99:=by
 unfold AQ;split
 ·decide
 ·exact rL _
def aBa(b:Bool):0<=CQ b∧CQ b<=99:=by cases b<;>decide
def xO(r:Rl)(l:List Rl):0<=Ho r l∧Ho r l<=99:=by
 unfold Ho;have:=IG r.1
 repeat' split
 all_goals omega
def Sg(l:List Rl):∀f j,0<=DG l f j∧DG l f j<=99
 |0,j=>by unfold DG;decide
 |f+1,j=>by
  unfold DG;have:=xO (CB l j) (l.take j);have:=Sg l f (j+1)
  repeat' split
  all_goals omega
def TM(l:List Rl):0<=Cp l∧Cp l<=99:=by
 unfold Cp;have:=Sg l l.length 0;split<;>omega
def SQ(a:Ak)(c:Int):0<=Bb a c∧Bb a c<=99:=by
 unfold Bb;have:=IG a.pa;have:=IG a.ot;have:=TM a.rs
 repeat' split
 all_goals first|exact aBa _|omega
def nK(a:Ak):∀(l:Bs)(b:Ak),0<=(Mv a b l).1∧(Mv a b l).1<=99
 |[],b=>by unfold Mv;simp
 |c::r,b=>by
  unfold Mv;have:=SQ a (c.toNat:Int);have:=nK a r (DR b (c.toNat:Int));split<;>omega
def sW(a:Ak):0<=B5 a∧B5 a<=99:=by
 unfold B5;have:=nK a (Bu a.op) (Ip a)
 repeat' split
 all_goals omega
def aFE(v:Vw)(a:Ak):0<=LS v a∧LS v a<=99:=by
 unfold LS;have:=sW a
 repeat' split
 all_goals omega
def iV{v:Vw}{a:Ak}(h:LS v a=0):B5 a=0:=by
 grind [LS]
def aRq{a:Ak}(h:B5 a=0)(f:0<=a.op):1<=a.op∧a.op<=18:=by
 have k:Eh a.op≠[]:=λe=>by unfold B5 at h;rw[if_pos e]at h;cases h
 unfold Eh at k;have u:a.op.toNat<19:=by
  rcases ZV a.op.toNat 19 with h|h
  ·exact h
  ·simp_all [PH]
 have z:a.op.toNat≠0:=λe=>by rw[e]at k;exact k rfl
 omega
def aFi(n p:Bs)(l:List Rl):0<=LK n p l∧LK n p l<=99:=by
 unfold LK;have:=TM l
 repeat' split
 all_goals omega
def R4{n p:Bs}{l:List Rl}(h:LK n p l=0):BI n=true:=by
 grind [LK]
def zS(l:List Tk)(k:Tk):((∃q,H5 l k=(some q,0))∧LK k.1 k.2.1 k.2.2.2=0∧k.2.1≠[]∧A0 l k.1=false∧A0 l k.2.1=true∧(H5 l k).1=some (EU l k))∨((H5 l k).1=none∧1<=(H5 l k).2∧(H5 l k).2<=99):=by
 unfold H5;have h:=aFi k.1 k.2.1 k.2.2.2;by_cases u:LK k.1 k.2.1 k.2.2.2≠0
 ·rw[if_pos u];exact .inr ⟨rfl,Xa⟩
 rw[if_neg u];by_cases z:k.2.1=[]
 ·rw[if_pos z];exact .inr ⟨rfl,V,V⟩
 rw[if_neg z];by_cases i:A0 l k.1=true
 ·rw[if_pos i];exact .inr ⟨rfl,V,V⟩
 rw[if_neg i];by_cases o:A0 l k.2.1=false
 ·rw[if_pos o];exact .inr ⟨rfl,V,V⟩
 rw[if_neg o];by_cases m:Gj k.2.2.2 (Bc l (IQ l k.2.1)).2.2.2=false
 ·rw[if_pos m];exact .inr ⟨rfl,V,V⟩
 rw[if_neg m];exact .inl ⟨⟨_,rfl⟩,Decidable.not_not.1 u,z,by simpa using i,by simpa using o,rfl⟩
structure kE (l:List Tk):Prop where
 sort:FW l
 tree:∃r,Hd l r∧r []=0
 name:∀k∈l,BI k.1=true
 par:∀k∈l,k.2.1=[]∨∃u∈l,u.1=k.2.1
def pZ{l:List Tk}(h:FW l):l.Pairwise λt u=>t.1≠u.1:=by
 rw[QC];intro i j hi q z e;have:=h i j z q;unfold Bc at this;rw[QO,QO,Qf hi,Qf q]at this;simp only[Q6]at this;rw[e,bl_irr]at this;cases this
def Ng{l:List Tk}{s:Bs}(h:A0 l s=true):∃k∈l,k.1=s:=by
 grind [A0,SV,Vz]
def aA3{l:List Tk}{s:Bs}(g:FW l)(h:A0 l s=false):∀k∈l,k.1≠s:=λk o e=>by
 obtain⟨j,q,rfl⟩:=QJ o;have:=(WT g q).2;unfold Bc at this;rw[QO,Qf q]at this;simp only[Q6]at this;rw[e,h]at this;cases this
def lU{s:Bs}(h:BI s=true):s≠[]:=λe=>by rw[e]at h;cases h
def Ew{l:List Tk}{k x:Tk}:x∈EU l k↔x∈l∨x=k:=by
 unfold EU;rw[QQ,Qq];constructor
 ·grind
 ·rintro(h|h)
  ·rw[←Q1 (IQ l k.1) l,QQ]at h;rcases h with h|h
   ·exact .inl h
   ·exact .inr (.inr h)
  ·exact .inr (.inl h)
def Vl(l:List Tk)(k:Tk):(EU l k).length=l.length+1:=by
 grind [EU]
def aAO{l:List Tk}{k:Tk}(h:kE l)(q:LK k.1 k.2.1 k.2.2.2=0)(z:A0 l k.1=false)(y:A0 l k.2.1=true):kE (EU l k):=by
 obtain⟨r,i,v⟩:=h.tree;have o:=R4 q;have g:FW (EU l k):=qA h.sort z;have a:=aA3 h.sort z;obtain⟨u,m,c⟩:=Ng y;have qa:k.2.1≠k.1:=λe=>a u m (c.trans e)
 refine⟨g,⟨λs=>if s=k.1 then l.length+1 else r s,⟨λt ht=>?_,λt ht=>?_,pZ g⟩,?_⟩,λt ht=>?_,λt ht=>?_⟩
 ·rcases Ew.1 ht with ht|rfl
  ·have w:t.1≠k.1:=a t ht;have f:t.2.1≠k.1:=λe=>by
    rcases h.par t ht with e3|⟨x,d,e3⟩
    ·simp_all [lU,e3]
    ·exact a x d (e3.trans e)
   simp only[if_neg w,if_neg f];exact i.up t ht
  ·simp only[if_neg qa,if_true];have:=i.top u m;rw[c]at this;omega
 ·rw[Vl];rcases Ew.1 ht with ht|rfl
  ·simp only[if_neg (a t ht)];have:=i.top t ht;omega
  ·simp
 ·simp_all [Bs,lU]
 ·rcases Ew.1 ht with ht|rfl
  ·exact h.name t ht
  ·exact o
 ·rcases Ew.1 ht with ht|rfl
  ·rcases h.par t ht with e|⟨x,d,e⟩
   ·exact .inl e
   ·exact .inr ⟨x,Ew.2 (.inl d),e⟩
  ·exact .inr ⟨u,Ew.2 (.inl m),c⟩
def aT6:=y0 f64 [] []
def Up:=y1 f65 4 [] []
def aT5:=y0 f65 [] [(4,Up)]
def aBw:=y0 Tryz.f165 [] []
def Mc:=y1 Tryz.f99 5 [] []
def aBy:=y0 Tryz.f99 [] [(5,Mc)]
def aLL:=y0 f114 [] []
def aKW:=y0 f177 [] []
def aKc:=y0 f323 [] []
def aKg:=y0 f295 [] []
def aKq:=y0 f243 [] []
def aKV:=y0 f178 [] []
def UG:=y1 f115 5 [(7,[(3,1),(4,1)])] []
def aLK:=y0 f115 [(1,[(3,6),(3,10),(3,13),(7,10),(7,13),(11,13),(13,2),(13,3),(13,6),(13,7),(13,10),(13,11)])] [(5,UG)]
def aT4:=y0 f66 [(9,[(3,6)])] []
def S89:=Ap []
def R89:=RF S89 aT6 [] 6
def aGp:Kq R89 64:=An (Aj func64) Ad
def P9:R89 [.bool true]=some (.tup []):=by
 refine Am (Qa rfl) ?_;unfold aT6;simp only[↓C2,Gt,Gp,reduceIte,Qc,Qe]
 all_goals exact YT
def S90:=Ap [(64,Ac R89)]
def R90:=RF S90 aT5 [.t 2] 46
def aGo:Kq R90 65:=An (Aj func65) (Aa aGp Ad)
def IW(s:Bs):Int:=s.foldl (λa c=>10*a+((c.toNat:Int)-48)) 0
def V8(s:Bs)(c:UInt8):IW (s++[c])=10*IW s+((c.toNat:Int)-48):=by simp[IW]
def aFS{s:Bs}(p:∀c∈s,48<=c.toNat∧c.toNat<=57):∀j,j<=s.length->0<=IW (s.take j)∧IW (s.take j)<10 ^ j:=by
 intro j;induction j with
 |zero=>intro _;rw[Q3];exact⟨V,V⟩
 |succ j ih=>
  intro q;have y:=p s[j] (QL _);have hi:=ih O;rw[Zb,Qf (by omega:j<s.length)];show 0<=IW (s.take j++[s[j]])∧IW (s.take j++[s[j]])<10 ^ (j+1);rw[V8,Int.pow_succ];omega
def aAb{ns:Id}{s:Bs}{Q:Ex->St->Prop}(i:s.length<=3)(r:∀c∈s,48<=c.toNat∧c.toNat<=57)(w:∀y,y.s 3= .int .i64 (IW s)->Q (.exit 0) y)(y:St)(g)(v:y.s 25= .slice false [] (Ax s))(b:y.s 26= .int .i64 (Ax s).length)(x:y.s 27= .int .i64 0)(d:y.s 3= .int .i64 0):A5 S90 ns Up Q y g:=by
 have z:=P9;refine Bf (n:=s.length) (I:=λj y=>y.s 25= .slice false [] (Ax s)∧y.s 26= .int .i64 s.length∧y.s 27= .int .i64 (j:Int)∧y.s 3= .int .i64 (IW (s.take j))) (λj q ih y g o=>?_) (λy g o=>?_) 0 (Qi _) y g ⟨v,by rw[b,BL],x,by rw[Q3];exact d⟩
 ·obtain⟨e,fa,u⟩:=y;obtain⟨v,b,x,a⟩:=o;simp only at v b x a;refine Af Up.eq_1 ?_;have k:((j:Int)<s.length):=by omega
  have oa:=nJ (j:=j);have hw:=wJ (j:=j) O;have f:(Ax s)[j]?=some (.int .u8 (s[j].toNat:Int)):=by simp[Ax,q]
  obtain⟨c1,m⟩:=r s[j] (QL _);have p:=aFS r j O;have p3:(10:Int) ^ j<=1000:=by
   have:j=0∨j=1∨j=2:=O
   rcases this with rfl|rfl|rfl<;>decide
  have d1:(48:Int)<=(s[j].toNat:Int):=O
  have d2:(s[j].toNat:Int)<=57:=O
  have w1:IntKind.i64.wrap (10*IW (s.take j))=10*IW (s.take j):=IntWalk.i64_in _ ⟨O,O⟩;have w2:IntKind.u8.wrap ((s[j].toNat:Int)-48)=(s[j].toNat:Int)-48:=by show((s[j].toNat:Int)-48) % 256=_;omega
  have t:IntKind.i64.wrap ((s[j].toNat:Int)-48)=(s[j].toNat:Int)-48:=IntWalk.i64_in _ ⟨O,O⟩;have w4:IntKind.i64.wrap (10*IW (s.take j)+((s[j].toNat:Int)-48))=IW (s.take (j+1)):=by
   rw[IntWalk.i64_in _ ⟨O,O⟩,Zb,Qf q];exact(V8 _ _).symm
  simp only[↓C2,Gt,Gp,reduceIte,Qc,Qe,v,b,x,a,k,oa,Qm,f,Ae S90 64,z,d1,d2,w1,w2,t,w4,hw];exact ih _ _ ⟨v,b,rfl,rfl⟩
 ·obtain⟨v,b,x,a⟩:=o;refine Af Up.eq_1 ?_;simp only[↓C2,Gy,GI,Gp,reduceIte,Qe,b,x,Q7];refine w _ ?_;rw[Qs (Qg _)]at a;simp only[↓C2,reduceIte,Qc,a]
def aPH(s:Bs)(u:1<=s.length)(i:s.length<=3)(d:s=[48]∨s.head?≠some 48)(p:∀c∈s,48<=c.toNat∧c.toNat<=57):R90 [.str s]=some (.int .i64 (IW s)):=by
 refine Am (Qa rfl) ?_;unfold aT5;have z:=P9;have w:((1:Int)<=s.length):=O
 have n:((s.length:Int)<=3):=O
 have v:∃c,s[0]?=some c∧(s=[48]∨c≠48):=by
  cases s with
  |nil=>simp at u
  |cons c s=>exact⟨c,rfl,by rcases d with h|h;exact .inl h;exact .inr (λe=>h (by rw[e];rfl))⟩
 obtain⟨b,j,na⟩:=v;simp only[↓C2,Gy,GI,reduceIte,Qc,Qe,reduceCtorEq,w,n];refine aG (λg=>?_) (λg=>?_)
 ·subst g;simp only[↓C2,Gt,Gp,reduceIte,Qc,Qe,reduceCtorEq,Ae S90 64,z];refine aAb i p (λy h=>?_) _ _ rfl rfl rfl rfl;simp only[↓C2,Gy,He,Gp,reduceIte,Qc,Qe,h]
  all_goals exact YT
 ·have a:((b.toNat:Int)=48)=False:=eq_false (λe=>(na.resolve_left g) (UInt8.toNat_inj.1 (by show b.toNat=48;omega)));simp only[↓C2,Gt,Gp,reduceIte,Qc,Qe,reduceCtorEq,ZI,g,j,a,Ae S90 64,z,QX];refine aAb i p (λy h=>?_) _ _ rfl rfl rfl rfl;simp only[↓C2,Gy,He,Gp,reduceIte,Qc,Qe,h]
  all_goals exact YT
theorem hexD_dig:∀d,d<10->(Fm d).toNat=48+d:=V
theorem LZ(n:Nat)(h:n<1000):∀c∈BT n,48<=c.toNat∧c.toNat<=57:=by
 grind [BT,Fm,hexD_dig]
def zE(n:Nat)(h:n<1000):IW (BT n)=n:=by
 grind [BT,IW,hexD_dig]
def V9(n:Nat):1<=(BT n).length:=by unfold BT;split;simp;split<;>simp
def aFT(n:Nat)(h:n<1000):BT n=[48]∨(BT n).head?≠some 48:=by
 have z:∀d,d<10->d≠0->Fm d≠48:=λd p f e=>by have:=hexD_dig d p;rw[e]at this;simp at this;omega
 unfold BT;split
 ·grind
 ·grind
def Fg(n:Nat)(h:n<1000):R90 [.str (BT n)]=some (.int .i64 (n:Int)):=by
 rw[aPH (BT n) (V9 n) (Dm n) (aFT n h) (LZ n h),zE n h]
def aUS:=Ap [(64,Ac R89)]
def aHL:=RF aUS aKW [.t 2] 12
def aTk:Kq aHL 177:=An (Aj func177) (Aa aGp Ad)
def aHK(b:Bool):aHL [.str (if b then [49]else [48])]=some (.bool b):=by
 refine Am (Qa rfl) ?_;unfold aKW;have z:=P9;have h:True:=trivial;have d:decide (([49]:Bs)=[48])=false:=rfl;have o:decide (([48]:Bs)=[49])=false:=rfl;have a:decide (([49]:Bs)=[49])=true:=rfl;have e:decide (([48]:Bs)=[48])=true:=rfl;cases b
 all_goals
  repeat' (first|(refine aG (λh=>?_) (λh=>?_)<;>try (exfalso;omega))|refine AS ?_ |(simp only[↓C2,Gt,Gp,reduceIte,Qc,Qe,reduceCtorEq,Ae aUS 64,z,d,o]))
  all_goals exact YT
def aWD:=Ap []
def aHp:=RF aWD aBw [.t 2] 24
def aS1:Kq aHp 165:=An (Aj func165) Ad
def WM:∀d,d<16->10<=d->(Fm d).toNat=87+d:=V
def w8{x:Int}(f:0<=x)(u:x<256):IntKind.u8.wrap x=x:=by show x % 256=x;omega
def oA(d:Nat)(h:d<16):aHp [.int .u8 ((Fm d).toNat:Int)]=some (.int .i64 (d:Int)):=by
 refine Am (Qa rfl) ?_;unfold aBw;have n:=h;by_cases p:d<10
 ·rw[hexD_dig d p];have a1:(48:Int)<=((48+d:Nat):Int):=by omega
  have s:((48+d:Nat):Int)<=57:=O
  have r:IntKind.u8.wrap (((48+d:Nat):Int)-48)=(d:Int):=Ye
  have i:IntKind.i64.wrap (d:Int)=(d:Int):=IntWalk.i64_in _ ⟨O,O⟩;simp only[↓C2,Gt,Gp,reduceIte,Qc,Qe,reduceCtorEq,a1,s,r,i]
  all_goals exact YT
 ·rw[WM d h O];have a1:(48:Int)<=((87+d:Nat):Int):=by omega
  have s:(((87+d:Nat):Int)<=57)=False:=eq_false O;have v:(97:Int)<=((87+d:Nat):Int):=O
  have q:((87+d:Nat):Int)<=102:=O
  have r:IntKind.u8.wrap (((87+d:Nat):Int)-97)=(d:Int)-10:=Ye
  have i:IntKind.i64.wrap ((d:Int)-10)=(d:Int)-10:=IntWalk.i64_in _ ⟨O,O⟩;have b:IntKind.i64.wrap ((d:Int)-10+10)=(d:Int):=X4
  simp only[↓C2,Gt,Gp,reduceIte,Qc,Qe,reduceCtorEq,a1,s,v,q,r,i,b]
  all_goals exact YT
def mF:∀(s:Bs)(j:Nat)(h:j<s.length),(ER s)[2*j]?=some (Fm (s[j].toNat / 16))∧(ER s)[2*j+1]?=some (Fm (s[j].toNat % 16))
 |[],j,h=>absurd h U
 |c::s,0,h=>⟨rfl,rfl⟩
 |c::s,j+1,h=>mF s j Xn
def orE:∀x:Nat,x<16->∀y:Nat,y<16->IntKind.u8.wrap (bits .or .i64 (IntKind.i64.wrap ((x:Int)*2 ^ min (4:Int).toNat IntKind.i64.bits)) (y:Int))=((16*x+y:Nat):Int):=V
def aPx:=Ap [(165,Ac aHp)]
def aDj:=RF aPx aBy [.t 2,.t 3] 47
def aJA:Kq aDj 99:=An (Aj func99) (Aa aS1 Ad)
def aHM(s:Bs)(hl:s.length<=1000000):aDj [.str (ER s)]=some (.tup [.str s,.bool true]):=by
 refine Am (Qa rfl) ?_;unfold aBy;have ba:(((ER s).length:Nat):Int)=2*s.length:=by rw[DY];omega
 have k:((2*(s.length:Int)).tmod 2)=0:=YG
 have hq:IntKind.i64.wrap ((2*(s.length:Int)).tdiv 2)=(s.length:Int):=by rw[Int.tdiv_eq_ediv_of_nonneg O,show(2*(s.length:Int)) / 2=s.length by omega];exact IntWalk.i64_in _ ⟨O,O⟩
 simp only[↓C2,Gt,Gp,reduceIte,Qc,Qe,reduceCtorEq,Int.reduceNe,ZI,ba,k,hq];refine aB ⟨O,O⟩ ?_;simp only[↓C2,Gy,Gp,reduceIte,Qc,Qe];refine Bf (n:=s.length) (I:=λj y=>y.s 0= .str (ER s)∧y.s 5= .int .i64 ((2*j:Nat):Int)∧∃t,y.s 4= .slice false t (Ax (s.take j))∧LG 9 _ 5 y.m y.c false t) (λj q ih y g hI=>?_) (λy g hI=>?_) 0 (Qi _) _ _ ⟨rfl,rfl,_,rfl,⟨λ_ _ _=>rfl,.inr ⟨_,rfl,O,Xa,XP⟩,Xa⟩⟩
 ·obtain⟨ka,fa,da⟩:=y;obtain⟨f,b,t,o,i⟩:=hI;simp only at f b o i;refine Af Mc.eq_1 ?_;have r:(((2*j:Nat):Int)<2*s.length):=by omega
  have oa:(0:Int)<=((2*j:Nat):Int):=O
  have ta:(0:Int)<=((2*j+1:Nat):Int):=O
  have z:IntKind.i64.wrap (((2*j:Nat):Int)+1)=((2*j+1:Nat):Int):=GS O O;have d:IntKind.i64.wrap (((2*j:Nat):Int)+2)=((2*(j+1):Nat):Int):=X4
  obtain⟨b1,b2⟩:=mF s j q;have p:=s[j].toNat_lt;have u:=oA (s[j].toNat / 16) O;have v:=oA (s[j].toNat % 16) O;have or:=orE (s[j].toNat / 16) O (s[j].toNat % 16) O;rw[show 16*(s[j].toNat / 16)+s[j].toNat % 16=s[j].toNat by omega]at or;have n1:(((s[j].toNat / 16:Nat):Int)<0)=False:=eq_false O;have n2:(((s[j].toNat % 16:Nat):Int)<0)=False:=eq_false O;have ia:Ax (s.take j)++[.int .u8 (s[j].toNat:Int)]=Ax (s.take (j+1)):=by rw[Zb,Qf q,DL];rfl
  have e:(Ax (s.take j)).length=j:=by rw[BL,Q5];omega
  simp only[↓C2,Gt,reduceIte,Qc,Qe,reduceCtorEq,f,b,ba,r,oa,ta,z,Qm,b1,b2,Ae aPx 165,u,v];refine AS ?_;have x:IntKind.i64.wrap (((s[j].toNat / 16:Nat):Int)*2 ^ min (4:Int).toNat IntKind.i64.bits)=IntKind.i64.wrap (((s[j].toNat / 16:Nat):Int)*2 ^ min (4:Int).toNat IntKind.i64.bits):=rfl;have w:∀a:Int,AM .shl (.int .i64 a) (.int .u64 4)=some (.int .i64 (IntKind.i64.wrap (a*2 ^ min (4:Int).toNat IntKind.i64.bits))):=λa=>rfl
  simp only[↓C2,Gt,Gp,reduceIte,Qc,Qe,reduceCtorEq,o,n1,n2,w,or];refine aB ⟨by simp only[e];omega,rfl,(by first|exact i.grow|exact i.put.grow|exact i.put.put.grow|exact i.put.put.put.grow|exact i.put.put.put.put.grow|exact i.put.put.put.put.put.grow)⟩ ?_;rw[ia];simp only[↓C2,Gt,Gp,reduceIte,Qc,Qe,b,d];exact ih _ _ ⟨f,rfl,_,rfl,(by first|exact LG.nil (i.appf O Xa)|exact LG.nil (i.put.appf O Xa)|exact LG.nil (i.put.put.appf O Xa)|exact LG.nil (i.put.put.put.appf O Xa)|exact LG.nil (i.put.put.put.put.appf O Xa)|exact LG.nil (i.put.put.put.put.put.appf O Xa))⟩
 ·obtain⟨f,b,t,o,i⟩:=hI;refine Af Mc.eq_1 ?_;have pa:(((2*s.length:Nat):Int)<2*s.length)=False:=eq_false O;rw[Qs (Qg _)]at o;simp only[Option.map_some,↓C2,Gt,Gp,reduceIte,Qc,Qe,reduceCtorEq,f,b,o,ba,pa,Cd]
  all_goals exact YT
def aGy(d:Bs)(h:d≠[]):ER d≠[45]∧ER d≠[]:=by
 have:0<d.length:=ZE.2 h;exact⟨λe=>YM,λe=>YM⟩
def aPC:=Ap [(99,Ac aDj),(64,Ac R89)]
def aQi:=RF aPC aLL [.t 2] 19
def aTC:Kq aQi 114:=An (Aj func114) (Aa aJA (Aa aGp Ad))
def aH5(d:Bs)(hl:d.length<=1000000):aQi [.str (if d=[]then [45]else ER d)]=some (.str d):=by
 refine Am (Qa rfl) ?_;unfold aLL;have a:=aHM d hl;have z:=P9;by_cases h:d=[]
 ·subst h;simp only[↓C2,Gt,Gp,reduceIte,Qc,Qe,reduceCtorEq]
  all_goals exact YT
 ·rw[if_neg h];obtain⟨u,t⟩:=aGy d h;simp only[↓C2,Gt,Gp,reduceIte,Qc,Qe,reduceCtorEq,u,t,Ae aPC 99,a,Ae aPC 64,z]
  all_goals exact YT
def RH(s:Bs)(c:UInt8):Bs×Bool:=if s.getLast?=some c then(s.dropLast,true)else(s,false)
def qY(s:Bs)(c:UInt8)(h:1<=s.length):(s.drop (s.length-1)=[c])=(s.getLast?=some c):=by
 rw[List.getLast?_eq_getElem?,Zl O,Qf O,QZ O];simp
def aWv:=Ap []
def aPL:=RF aWv aKc [.t 4] 21
def aSQ:Kq aPL 323:=An (Aj func323) Ad
def aHe(s:Bs)(c:UInt8)(hl:s.length<=1000000):aPL [.str s,.str [c]]=some (.bool (decide (s.getLast?=some c))):=by
 refine Am (Qa rfl) ?_;unfold aKc;by_cases f:s=[]
 ·have y1:((1:Nat):Int)=1:=rfl;have w:((1:Int)<=s.length)=False:=eq_false (by rw[f];decide);simp only[↓C2,Gt,Gp,reduceIte,Qc,Qe,reduceCtorEq,Qb,Qh,y1,w];rw[f]
  all_goals exact YT
 ·have u:1<=s.length:=ZE.2 f;have w:((1:Int)<=s.length)=True:=eq_true O;have v:IntKind.i64.wrap ((s.length:Int)-1)=(s.length:Int)-1:=GS O O;have y:(0:Int)<=(s.length:Int)-1:=by omega
  have n:((s.length:Int)-1<=(s.length:Int))=True:=eq_true O;have m:((s.length:Int)-1).toNat=s.length-1:=O
  have y1:((1:Nat):Int)=1:=rfl;have p:=qY s c u;have t:Zp (s.length-(s.length-1)) (s.drop (s.length-1))=s.drop (s.length-1):=Qs XQ;simp only[↓C2,Gt,Gp,reduceIte,Qc,Qe,reduceCtorEq,Qb,Qh,y1,w,v,y,n,m,t,p]
  all_goals exact YT
def aPt:=Ap [(323,Ac aPL)]
def aPO:=RF aPt aKg [.t 4,.t 5] 18
def aST:Kq aPO 295:=An (Aj func295) (Aa aSQ Ad)
def aHh(s:Bs)(c:UInt8)(hl:s.length<=1000000):aPO [.str s,.str [c]]=some (.tup [.str (RH s c).1,.bool (RH s c).2]):=by
 refine Am (Qa rfl) ?_;unfold aKg;have a:=aHe s c hl;unfold RH;by_cases h:s.getLast?=some c
 ·have u:1<=s.length:=by cases s;cases h;simp
  have v:IntKind.i64.wrap ((s.length:Int)-1)=(s.length:Int)-1:=GS O O;have f:(0:Int)<=(s.length:Int)-1:=O
  have n:((s.length:Int)-1<=(s.length:Int))=True:=eq_true O;have m:((s.length:Int)-1).toNat=s.length-1:=O
  have y1:((1:Nat):Int)=1:=rfl;rw[if_pos h];simp only[↓C2,Gt,Gp,reduceIte,Qc,Qe,reduceCtorEq,Qb,Qh,y1,Ae aPt 323,a,h,v,f,n,m,QY,List.dropLast_eq_take]
  all_goals exact YT
 ·rw[if_neg h];simp only[↓C2,Gt,Gp,reduceIte,Qc,Qe,reduceCtorEq,Ae aPt 323,a,h]
  all_goals exact YT
def aUK:=Ap [(295,Ac aPO)]
def aPV:=RF aUK aKq [.t 4,.t 5] 11
def aS0:Kq aPV 243:=An (Aj func243) (Aa aST Ad)
def nZ(s:Bs)(c:UInt8)(hl:s.length<=1000000):aPV [.str s,.str [c]]=some (.tup [.str (RH s c).1,.bool (RH s c).2]):=by
 refine Am (Qa rfl) ?_;unfold aKq;have a:=aHh s c hl;simp only[↓C2,Gt,Gp,reduceIte,Qc,Qe,reduceCtorEq,Ae aUK 295,a]
 all_goals exact YT
def aGS(s:Bs)(c:UInt8):RH (s++[c]) c=(s,true):=by
 grind [RH]
def UJ{s:Bs}{c:UInt8}(h:s.getLast?≠some c):RH s c=(s,false):=if_neg h
def zD(n:Nat)(h:n<1000)(c:UInt8)(y:c.toNat<48):(BT n).getLast?≠some c:=by
 grind [LZ]
def xR(x:Rw)(h:0<=x.1∧x.1<1000):RH (rowW1 x) 35=(BT x.1.toNat++(if x.2.1=true then [33]else []),x.2.2)∧RH (BT x.1.toNat++(if x.2.1=true then [33]else [])) 33=(BT x.1.toNat,x.2.1):=by
 obtain⟨n,g,d⟩:=x;have o:n.toNat<1000:=by simp only at h;omega
 unfold rowW1;have a:∀c:UInt8,c.toNat<48->(BT n.toNat).getLast?≠some c:=zD _ o;cases g<;>cases d<;>simp only[Bool.false_eq_true,if_false,if_true,Zf,aGS,true_and,and_true]
 ·exact⟨UJ (a 35 V),UJ (a 33 V)⟩
 ·exact UJ (a 33 V)
 ·exact UJ U
def aPw:=Ap [(243,Ac aPV),(65,Ac R90)]
def aP9:=RF aPw aKV [.cell (some 3) 2] 20
def aTj:Kq aP9 178:=An (Aj func178) (Aa aS0 (Aa aGo Ad))
def aHJ(x:Rw)(h:0<=x.1∧x.1<1000):aP9 [.str (rowW1 x)]=some (.agg [.int .i64 x.1,.bool x.2.1,.bool x.2.2]):=by
 refine Am (Qa rfl) ?_;unfold aKV;obtain⟨c1,u⟩:=xR x h;have hl:=Sh x;have a1:=nZ (rowW1 x) 35 O;have s:=nZ (BT x.1.toNat++(if x.2.1=true then [33]else [])) 33 (by have:=Dm x.1.toNat;rw[Qj];split<;>simp<;>omega);rw[c1]at a1;rw[u]at s;have r:=Fg x.1.toNat O;rw[QI h.1]at r;generalize BT x.1.toNat++(if x.2.1=true then [33]else [])=y at *;simp only[Gv,↓C2,Gp,reduceIte,Qc,Qe,ZU,Nat.reduceLeDiff,reduceCtorEq,Ae aPw 243,a1,s,Ae aPw 65,r]
 all_goals exact YT
def opV(x:Op1):Prop:=x.2.1.length<=100∧x.2.2.length<=400∧((x.1=1∧x.2.1≠[])∨(x.1=2∧x.2.1≠[]∧x.2.2=[])∨(x.1=3∧x.2.2=[]))
def aGq(k:Int)(p:Bs)(n:Int):(AX k p n).length<=p.length+8:=by
 unfold AX
 repeat' split
 all_goals (first|(simp only[Qj,Qb,Qh];omega)|exact Qi _)
def opK(x:Op1):Prop:=opV x∧(x.1≠3->BX (BJ x.2.1).1 (BJ x.2.1).2.1 (BJ x.2.1).2.2=0)
theorem PD(p s:Bs):BQ (p++s) p=true:=by simp[BQ]
def fA{s:Bs}(h:AQ s=0):1<=s.length:=by
 cases s with
 |nil=>exact absurd h V
 |cons c s=>simp
def SJ{k n:Int}{name:Bs}(h:BX k name n=0):BJ (AX k name n)=(k,name,n):=by
 unfold AX;rw[if_neg (λe=>e h)];unfold BX at h;by_cases u:k=1
 ·grind [BJ,PD]
 rw[if_neg u]at h ⊢;by_cases z:k=2
 ·subst z;rw[if_pos rfl]at h;split at h
  ·rename_i c;obtain⟨n1,n2,i⟩:=c;have hl:=fA i;rw[if_pos rfl];have m:(IntKind.u8.wrap n).toNat=n.toNat:=by
    have:IntKind.u8.wrap n=n:=by show n % 256=n;omega
    rw[this]
   rw[m];have j:([100,47]++name++[0,UInt8.ofNat n.toNat]).drop 2=name++[0,UInt8.ofNat n.toNat]:=U
   have v:(name++[0,UInt8.ofNat n.toNat]).length=name.length+2:=U
   unfold BJ;have w:(name++[0,UInt8.ofNat n.toNat]).take (name.length+2-2)=name:=U
   have f:(name++[0,UInt8.ofNat n.toNat]).getD (name.length+2-1) 0=UInt8.ofNat n.toNat:=by simp[QB]
   have a:(name++[0,UInt8.ofNat n.toNat]).getD (name.length+2-2) 0=0:=by simp[QB]
   have t:(((UInt8.ofNat n.toNat).toNat:Nat):Int)=n:=by
    rw[UInt8.toNat_ofNat'];omega
   rw[j,v,if_neg U,if_neg U,if_neg (by simp[BQ]),if_neg (by simp[BQ]),if_pos ⟨by rw[Q2];exact PD _ _,O,a⟩,w,f,t]
  ·cases h
 rw[if_neg z]at h ⊢;by_cases y:k=3
 ·simp_all [BJ,BQ,PD]
 rw[if_neg y]at h ⊢;split at h
 ·rename_i s;split at h
  ·rename_i c;obtain⟨rfl,rfl⟩:=c;rcases s with rfl|rfl
   ·rfl
   ·rfl
  ·cases h
 ·cases h
def Pw{k n:Int}{name:Bs}(h:BX k name n=0):AX k name n≠[]:=λe=>by
 have:=SJ h;rw[e]at this;have:k=0:=(congrArg (·.1) this).symm;subst this;cases h
theorem Dl{a k n:Int}{name c:Bs}(g:a=1∨a=2∧c=[])(h:BX k name n=0)(hl:name.length<=64)(m:c.length<=400):opK (a,AX k name n,c):=by
 have u:=aGq k name n;have z:=Pw h;refine⟨⟨by show(AX k name n).length<=100;omega,m,?_⟩,λ_=>by show BX (BJ (AX k name n)).1 _ _=0;rw[SJ h];exact h⟩;rcases g with rfl|⟨rfl,rfl⟩
 ·exact .inl ⟨rfl,z⟩
 ·simp_all
def V4(a:UInt8){p:Bs}(hl:p.length<=64):opK (3,[a,47]++p++[47],[]):=
 ⟨⟨Xb,Qi _,.inr (.inr ⟨rfl,rfl⟩)⟩,λh=>absurd rfl h⟩
theorem qK{p:Bs}(h:AQ p=0):BX 1 p 0=0:=by unfold BX;rw[if_pos rfl,if_pos ⟨rfl,h⟩]
def aNz{p:Bs}{n:Int}(h:AQ p=0)(c:1<=n∧n<=30):BX 2 p n=0:=by unfold BX;rw[if_neg V,if_pos rfl,if_pos ⟨c.1,c.2,h⟩]
def aRh{p:Bs}(h:BI p=true):BX 3 p 0=0:=by unfold BX;rw[if_neg V,if_neg V,if_pos rfl,if_pos ⟨rfl,h⟩]
structure uZ (l:List Op1):Prop where
 n:l.length<=40
 ok:∀x∈l,opK x
def aG3{l q:List Mt}{m:Mt}(e:(HA l m).1=some q):AQ m.1=0∧l.length<4:=by
 grind [HA,Eb]
def Sf{l:List Rl}:∀f j,DG l f j=0->∀i,j<=i->i<j+f->i<l.length->Ho (CB l i) (l.take i)=0
 |0,j,_,i,h1,h2,_=>O
 |f+1,j,h,i,h1,h2,hi=>by
  unfold DG at h;rw[if_pos O]at h;split at h
  ·omega
  ·rename_i y;rcases Nat.eq_or_lt_of_le h1 with rfl|h1
   ·exact Decidable.not_not.1 y
   ·exact Sf f (j+1) h i O O hi
def yP{l:List Rl}(h:Cp l=0):∀r∈l,r.1.length<=64:=λr n=>by
 unfold Cp at h;split at h
 ·cases h
 ·obtain⟨i,hi,rfl⟩:=QJ n;have z:=Sf l.length 0 h i (Qi _) O hi;have e:CB l i=l[i]:=by simp[CB,Qf hi]
  rw[e]at z;unfold Ho at z;split at z
  ·omega
  ·grind [AQ,Cf]
theorem qH{l:List Rl}(h:Cp l=0):(Cw (BH l)).length<=300:=by
 have o:=(MU h).1;have y:=yP h;have g:Cr (BH l)<=71*(BH l).length:=LM λx q=>by
  obtain⟨r,i,rfl⟩:=Qv.1 q;have:=y r i;have:=E5 r.2.toNat;simp only[VM,Qj,Qb,Qh];omega
 have:=FM (BH l);rw[Ct]at *;omega
def fG(x y:Bs):(BY [x,y]).length=4+x.length+y.length:=by
 grind [BY,xT,beB_len]
def qB{l:List Mt}:FY l↔l.Pairwise λa b=>Op.bytesLess a.1 b.1=true:=by
 rw[QC];constructor
 ·intro h i j hi q z;have:=h i j z q;simpa[QB,hi,q]using this
 ·intro h i j z q;have:=h i j O q z;simpa[QB,show i<l.length by omega,q]using this
def Sb{l:List Tk}:FW l↔l.Pairwise λa b=>Op.bytesLess a.1 b.1=true:=by
 rw[QC];constructor
 ·intro h i j hi q z;have:=h i j z q;simpa[Bc,QB,hi,q]using this
 ·intro h i j z q;have:=h i j O q z;simpa[Bc,QB,show i<l.length by omega,q]using this
def aCS{l q:List Mt}{m:Mt}(h:FY l)(e:(HA l m).1=some q):FY q:=by
 rw[S_ h]at e;have:=jM (s:=(false,l)) (m:=m) h;unfold aCU at this;rw[e]at this;exact this
def yF{l:List Mt}{p:Bs}(h:FY l):FY (N2 l p):=by
 rw[qB]at h ⊢;refine List.Pairwise.sublist ?_ h;unfold N2;have e:l=l.take (B0 l p).toNat++l.drop (B0 l p).toNat:=(Q1 _ _).symm
 conv=>rhs;rw[e]
 refine List.Sublist.append (List.Sublist.refl _) ?_;rw[←List.drop_drop];exact List.drop_sublist _ _
def cR{l:List Tk}{r:Bs->Nat}(T:Hd l r){s x:Bs}(h:Hk l s x):x=s∨∃c∈BU l s,Hk l c x:=by
 induction h with
 |refl=>exact .inl rfl
 |step t k u ih=>
  right;rcases ih with e|⟨c,y,z⟩
  ·refine⟨t.1,?_,.refl⟩;have:=T.up t k;unfold BU;refine Qv.2 ⟨t,QR.2 ⟨k,?_⟩,rfl⟩;simp only[QA,decide_eq_true_eq];exact⟨e,λf=>by rw[e,←f]at this;omega⟩
  ·exact⟨c,y,.step t k z⟩
def bR{l:List Tk}{r:Bs->Nat}(T:Hd l r):∀(f:Nat)(s x:Bs),Hk l s x->l.length<=r s+f->x∈DJ l f s
 |0,s,x,h,hf=>by
  rcases cR T h with rfl|⟨c,y,_⟩
  ·simp[DJ]
  ·have:=Ia T y;omega
 |f+1,s,x,h,hf=>by
  rw[DJ];rcases cR T h with rfl|⟨c,y,z⟩
  ·exact Qp
  ·have:=Ia T y;exact QF _ (Zt.2 ⟨c,y,bR T f c x z O⟩)
def aAZ{l:List Tk}{r:Bs->Nat}(T:Hd l r){s x:Bs}:x∈Cb l s↔Hk l s x:=by
 unfold Cb;constructor
 ·intro h;exact IP _ _ _ (Tp h)
 ·intro h;exact(ZD _ _).mem_iff.2 (bR T l.length s x h O)
def rJ{l:List Bs}{s:Bs}:FN l s=true↔s∈l:=by
 unfold FN;rw[List.any_eq_true];constructor
 ·rintro⟨x,hx,e⟩;rw[of_decide_eq_true e];exact hx
 ·intro h;exact⟨s,h,decide_eq_true rfl⟩
def WB{l:List Tk}{g:List Bs}{t:Tk}:t∈Cv l g↔t∈l∧t.1∉g:=by
 unfold Cv;rw[QR];have:=@rJ g t.1;cases h:FN g t.1<;>simp_all
def aAP{l:List Tk}(h:kE l)(s:Bs):kE (Cv l (Cb l s)):=by
 obtain⟨r,T,v⟩:=h.tree;have b:(Cv l (Cb l s)).Sublist l:=QW;refine⟨Sb.2 ((Sb.1 h.sort).sublist b),⟨λn=>((Cv l (Cb l s)).filter λu=>decide (r u.1<=r n)).length,⟨λt ht=>?_,λt ht=>Zz _ _,T.one.sublist b⟩,?_⟩,λk g=>h.name k (b.subset g),λk g=>?_⟩
 ·have m:=T.up t (b.subset ht);have z:∀L:List Tk,t∈L->(L.filter λu=>decide (r u.1<=r t.2.1)).length<(L.filter λu=>decide (r u.1<=r t.1)).length:=by
   intro L;induction L with
   |nil=>intro h;cases h
   |cons a L ih=>
    have d:(L.filter λu=>decide (r u.1<=r t.2.1)).length<=(L.filter λu=>decide (r u.1<=r t.1)).length:=by
     rw[←Zg,←Zg];exact List.countP_mono_left (λu _ c=>by
      have:=of_decide_eq_true c;exact decide_eq_true O)
    intro hm;rcases Qq.1 hm with rfl|hm
    ·rw[Qk,Qk,if_neg Xb,if_pos U];simp only[Qb];omega
    ·have:=ih hm;rw[Qk,Qk];by_cases c1:r a.1<=r t.2.1
     ·rw[if_pos (by simpa using c1),if_pos Xb];simp only[Qb];omega
     ·rw[if_neg (by simpa using c1)];split
      ·simp only[Qb];omega
      ·exact this
  exact z _ ht
 ·rw[Zs,Zw];intro u m;have:=T.up u (b.subset m);simp only[decide_eq_true_eq];omega
 ·obtain⟨w,f⟩:=WB.1 g;rcases h.par k w with e|⟨u,m,e⟩
  ·exact .inl e
  ·refine .inr ⟨u,WB.2 ⟨m,λp=>f ?_⟩,e⟩;rw[aAZ T]at p ⊢;rw[e]at p;exact .step k w p
def Lm(q s:Bs):∀l:List Bs,BC (l++[q]) s=if q=s then(l.length:Int)else BC l s
 |[]=>by simp[BC]
 |x::r=>by
  have ih:=Lm q s r;show BC (x::(r++[q])) s=_;unfold BC;rw[ih];by_cases h:q=s
  ·simp only[if_pos h];rw[if_pos O];simp
  ·simp only[if_neg h]
def aBf(k:Kn)(q:Bs)(t:Bs)(b:Bool)(s:Bs):Db {k with es:=k.es++[(q,t,b)]} s=if q=s then(t,b,true)else Db k s:=by
 unfold Db E6;simp only[Zy,QV,Q9,Lm,QH];by_cases h:q=s
 ·simp only[if_pos h];rw[if_neg O];simp[QB]
 ·simp only[if_neg h];by_cases z:BC (k.es.map (·.1)) s<0
  ·rw[if_pos z,if_pos z]
  ·rw[if_neg z,if_neg z];have:=(EJ (k.es.map (·.1)) s).2;rw[QH]at this;have e:∀x,(k.es++[(q,t,b)]).getD (BC (k.es.map (·.1)) s).toNat x=k.es.getD (BC (k.es.map (·.1)) s).toNat x:=λx=>by
    simp only[QB];rw[QP O]
   rw[e]
def zV(k:Kn)(q:Bs)(nl:Bool)(l:List Bs)(s:Bs):EQ {k with ls:=k.ls++[(q,nl,l)]} s=if q=s then(nl,l,true)else EQ k s:=by
 unfold EQ;simp only[Zy,QV,Q9,Lm,QH];by_cases h:q=s
 ·simp only[if_pos h];rw[if_neg O];simp[QB]
 ·simp only[if_neg h];by_cases z:BC (k.ls.map (·.1)) s<0
  ·rw[if_pos z,if_pos z]
  ·rw[if_neg z,if_neg z];have:=(EJ (k.ls.map (·.1)) s).2;rw[QH]at this;have e:∀x,(k.ls++[(q,nl,l)]).getD (BC (k.ls.map (·.1)) s).toNat x=k.ls.getD (BC (k.ls.map (·.1)) s).toNat x:=λx=>by
    simp only[QB];rw[QP O]
   rw[e]
def Ga(k:Kn)(q:Bs)(d:Dk)(s:Bs):(q=s->(Db (A_ k q false d) s).2.2=true)∧(q≠s->Db (A_ k q false d) s=Db k s):=by
 have e:A_ k q false d={k with es:=k.es++[(q,((d.its.find? λx=>decide (x.1=q)).getD ([],[],false)).2)]}:=rfl;rw[e];have h:=aBf k q ((d.its.find? λx=>decide (x.1=q)).getD ([],[],false)).2.1 ((d.its.find? λx=>decide (x.1=q)).getD ([],[],false)).2.2 s;refine⟨λu=>?_,λu=>?_⟩
 ·refine(congrArg (λx=>x.2.2) h).trans ?_;rw[if_pos u]
 ·refine h.trans ?_;rw[if_neg u]
def aGj(k:Kn)(q:Bs)(d:Dk):(EQ (A_ k q true d) q).2.2=true:=by
 have e:A_ k q true d={k with ls:=k.ls++[(q,((d.lss.find? λx=>decide (x.1=q)).getD ([],true,[])).2)]}:=rfl;rw[e];have h:=zV k q ((d.lss.find? λx=>decide (x.1=q)).getD ([],true,[])).2.1 ((d.lss.find? λx=>decide (x.1=q)).getD ([],true,[])).2.2 q;refine(congrArg (λx=>x.2.2) h).trans ?_;rw[if_pos rfl]
def cU{l q:List Mt}{m:Mt}(h:FY l)(e:(HA l m).1=some q):∀x∈q,x∈l∨x=m:=by
 grind [S_,aCV]
def aCW(l:List Mt)(m:Mt):(∃q,(HA l m).1=some q∧(HA l m).2=0∧q.length=l.length+1)∨((HA l m).1=none∧1<=(HA l m).2∧(HA l m).2<=99):=by
 unfold HA;have h:=IG m.1;by_cases u:Eb m.1 m.2.1≠0
 ·grind [Eb]
 rw[if_neg u];by_cases z:0<=B0 l m.1
 ·simp_all
 rw[if_neg z];by_cases i:L1 m.1 (l.map (·.1))=true
 ·simp_all
 rw[if_neg i];by_cases o:4<=l.length
 ·simp_all
 rw[if_neg o];exact .inl ⟨_,rfl,rfl,by rw[isortR_len,Qj];rfl⟩
structure GV (v:Vw):Prop where
 ok:P3 v
 inv:kE v.ks
 srt:FY v.ms
 nlm:v.nlm=true->v.ms=[]
 te:1<=v.te∧v.te<=6
 kl:v.ks.length<=39
 ml:v.ms.length<=4
 mr:∀m∈v.ms,m.1.length<=64
def aEZ{v:Vw}(m:GV v){n:Int}(c:1<=n∧n<=6):GV {v with te:=n}:=⟨⟨m.ok.ml,m.ok.mp,m.ok.kl,m.ok.kp⟩,m.inv,m.srt,m.nlm,c,m.kl,m.ml,m.mr⟩
def Te{v:Vw}(x:GV v){nl:Bool}{l:List Mt}(w:Rj l)(g:FY l)(c:nl=true->l=[])(hl:l.length<=4)(i:∀m∈l,m.1.length<=64):GV {v with nlm:=nl,ms:=l}:=⟨⟨w.1,w.2,x.ok.kl,x.ok.kp⟩,x.inv,g,c,x.te,x.kl,hl,i⟩
def kK{v:Vw}(m:GV v){nl:Bool}{l:List Tk}(h:kE l∧l.length<=39∧∀k∈l,wW k∧LV k.2.2.2):GV {v with nlt:=nl,ks:=l}:=⟨⟨m.ok.ml,m.ok.mp,QE h.2.1 V,h.2.2⟩,h.1,m.srt,m.nlm,m.te,h.2.1,m.ml,m.mr⟩
structure I_ (a:Ak):Prop where
 ok:G7 a
 cap:FT a.rs
 nlr:a.nlr=true->a.rs=[]
structure HD (k:Kn):Prop where
 es:k.es.length<=20
 ls:k.ls.length<=20
 et:∀x∈k.es,x.2.1.length<=400
 lt:∀x∈k.ls,x.2.2.length<=2000∧∀s∈x.2.2,s.length<=1000000
def L9(v:Vw)(e:Int):Oc:=⟨[],false,Hg (.fail e),true,[],v⟩
def Dp(v:Vw)(q:Bs)(li:Bool):Oc:=⟨q,li,[],true,[],v⟩
def Ix(v:Vw)(a:Ak)(o:Oc):Prop:=
 ∃y,Hh y=0∧vQ y∧o.rep=Hg y∧(((∃e,y= .fail e)∧o.ops=[]∧o.vw=v)∨((∀e,y≠ .fail e)∧((DN a.op=false∧o.ops=[]∧∃b,(a.op≠2->a.op≠3->b=v.se)∧o.vw={v with se:=b})∨(DN a.op=true∧o.ops≠[]∧uZ o.ops∧GV o.vw))))
structure Hb (v:Vw) (a:Ak) (dec:Kn->Oc):Prop where
 run:∀k,HD k->R19 Rk RU [Hv v,GT a,.agg (G6 k)]=some (.agg (Lh (dec k)))
 rep:∀k,HD k->(dec k).need=[]->Ix v a (dec k)
 nd:∀k,HD k->(dec k).need≠[]->∃q li,dec k=Dp v q li
 term:∃R:Kn->Nat,(∀k,R k<=3)∧∀k d,HD k->(dec k).need≠[]->R (A_ k (dec k).need (dec k).li d)<R k
def Bj{v:Vw}{a:Ak}(o:Oc)(run:∀k,HD k->R19 Rk RU [Hv v,GT a,.agg (G6 k)]=some (.agg (Lh o)))(c:o.need=[])(i:Ix v a o):Hb v a (λ_=>o):=
 ⟨run,λ_ _ _=>i,λ_ _ h=>absurd c h,λ_=>0,λ_=>Qi _,λ_ _ _ h=>absurd c h⟩
def BF{v:Vw}{a:Ak}{e:Int}(r:1<=e∧e<=99):Ix v a (L9 v e):=⟨.fail e,if_pos r,trivial,rfl,.inl ⟨⟨e,rfl⟩,rfl,rfl⟩⟩
def FP{v:Vw}{a:Ak}{o:Oc}(y:Ry)(h:Hh y=0)(c:vQ y)(i:o.rep=Hg y)(r:∀e,y≠ .fail e)(z:DN a.op=false)(s:o.ops=[])(b:Bool)(f:a.op≠2->a.op≠3->b=v.se)(m:o.vw={v with se:=b}):Ix v a o:=
 ⟨y,h,c,i,.inr ⟨r,.inl ⟨z,s,b,f,m⟩⟩⟩
def Dr{v:Vw}{a:Ak}{o:Oc}(y:Ry)(h:Hh y=0)(c:vQ y)(i:o.rep=Hg y)(s:∀e,y≠ .fail e)(z:DN a.op=true)(b:o.ops≠[])(m:uZ o.ops)(hi:GV o.vw):Ix v a o:=
 ⟨y,h,c,i,.inr ⟨s,.inr ⟨z,b,m,hi⟩⟩⟩
def Nz{op:Int}(h:4<=op∧op<=18∧op≠9∧op≠14∧op≠17):DN op=true:=decide_eq_true h
def OU{op:Int}(h:op=1∨op=2∨op=3∨op=9∨op=14∨op=17):DN op=false:=decide_eq_false O
def Ob:∀{l:List Mt},(∀m∈l,m.1.length<=64)->(Fx l).length<=68*l.length
 |[],_=>Qg _
 |m::l,h=>by
  have ih:=Ob (l:=l) λx q=>h x (QF _ q)
  have w:=h m (Qp ..);have:=lX m;show(mtB m++Fx l).length<=_;rw[Qj,Qb];omega
def Pd{s:Bs}(h:BI s=true):s.length<=8:=by
 grind [BI]
def Hx(v:Vw):eF (GE v):=⟨rfl,rfl⟩
def wF(v:Vw)(a:Ak)(k:Kn){e:Int}(r:1<=e∧e<=99):NX ⟨v,a,k⟩ (GE v) [.int .i64 e]=some (.tup [],L9 v e,none):=jR ⟨v,a,k⟩ (GE v) e (Hx v) r
def aBv{v:Vw}{a:Ak}{e:Int}(g:vV [Hv v,GT a]=some (.int .i64 e))(r:1<=e∧e<=99):Hb v a (λ_=>L9 v e):=
 Bj _ (λk _=>aDm Rk RU v a k e O g _ _ (wF v a k r)) rfl (BF r)
def aGE{v:Vw}{a:Ak}(hv:GV v)(ha:I_ a)(ia:vV [Hv v,GT a]=some (.int .i64 0))(hc:B5 a=0)(h1:1<=a.op)(h8:a.op<=8):∃aa,Hb v a aa:=by
 have ma:∀o:Oc,(GE v).nl=true->(GE v).ops=[]:=λ_ _=>rfl
 rcases(by omega:a.op=1∨a.op=2∨a.op=3∨a.op=4∨a.op=5∨a.op=6∨a.op=7∨a.op=8)with h|h|h|h|h|h|h|h
 ·exact⟨_,Bj _ (λk _=>Bw .o1 a k h ia _ _ (It ⟨v,a,k⟩ (GE v) (.state v.se) (λ_=>rfl) trivial trivial)) rfl (FP (.state v.se) rfl trivial rfl Xq (OU O) rfl v.se (λ_ _=>rfl) rfl)⟩
 ·exact⟨_,Bj _ (λk _=>Bw .o2 a k h ia _ _ (Is ⟨v,a,k⟩ _ (λ_=>rfl))) rfl (FP .done rfl trivial rfl Xq (OU O) rfl _ (λe _=>absurd h e) rfl)⟩
 ·exact⟨_,Bj _ (λk _=>Bw .o3 a k h ia _ _ (Is ⟨v,a,k⟩ _ (λ_=>rfl))) rfl (FP .done rfl trivial rfl Xq (OU O) rfl _ (λ_ e=>absurd h e) rfl)⟩
 ·have ht:=hv.te;by_cases h6:6<=v.te
  ·exact⟨_,Bj _ (λk _=>Bw .o4 a k h ia _ _ (aC8 ⟨v,a,k⟩ (GE v) _ _ (λ_=>rfl) h6 (wF v a k V))) rfl (BF V)⟩
  ·exact⟨_,Bj _ (λk _=>Bw .o4 a k h ia _ _ (aPp ⟨v,a,k⟩ (GE v) v.te (Hx v) h6 rfl O)) rfl (Dr .done rfl trivial rfl Xq (Nz O) (by simp[aFy,Oc.op,GE]) ⟨by simp[aFy,Oc.op,GE],by
    simp only[aFy,Oc.op,GE,QG,Q4];exact⟨Dl (.inl rfl) rfl (Qi _) (by rw[Lib.repeatL_length];unfold Rx;simp only[List.length_singleton];split<;>omega),λ_ h=>nomatch h⟩⟩ (aEZ hv O))⟩
 ·have hl:=hv.ml;have da:=aEo (nl:=v.nlm) (t:=[]) (l:=v.ms) (m:=(a.pa,a.n,a.fl)) O hv.nlm (by have:=ha.ok.pa;simp only;omega);rcases aCW v.ms (a.pa,a.n,a.fl)with ⟨l',e1,e2,e3⟩|⟨e1,e2⟩
  ·rw[e1,e2]at da;have ea:Rj l':=⟨O,λm hm=>by
    rcases cU hv.srt e1 m hm with h|h
    ·exact hv.ok.mp m h
    ·rw[h];exact ha.ok.pa⟩
   obtain⟨ta,h4⟩:=aG3 e1;have b:∀m∈l',m.1.length<=64:=λm hm=>by
    rcases cU hv.srt e1 m hm with h|h
    ·exact hv.mr m h
    ·rw[h];exact Cf ta
   exact⟨_,Bj _ (λk _=>Bw .o5 a k h ia _ _ (aC6 ⟨v,a,k⟩ (GE v) false l' da (Hx v) ea)) rfl (Dr .done rfl trivial rfl Xq (Nz O) (by simp[Wg,Rv,Oc.op,GE]) ⟨by simp[Wg,Rv,Oc.op,GE],by
    simp only[Wg,Rv,Oc.op,GE,QG,Q4];have:=Ob b;exact⟨Dl (.inl rfl) rfl (Qi _) O,λ_ h=>nomatch h⟩⟩ (Te hv ea (aCS hv.srt e1) (λe=>Xw) O b))⟩
  ·rw[e1]at da;exact⟨_,Bj _ (λk _=>Bw .o5 a k h ia _ _ (aC7 ⟨v,a,k⟩ (GE v) _ _ (λ_=>rfl) v.nlm v.ms _ da O (wF v a k e2))) rfl (BF e2)⟩
 ·have hl:=hv.ml;by_cases hf:B0 v.ms a.pa<0
  ·have c:=aIg v.nlm v.ms a.pa O hf;exact⟨_,Bj _ (λk _=>Bw .o6 a k h ia _ _ (aC5 ⟨v,a,k⟩ (GE v) _ _ (λ_=>rfl) v.nlm v.ms 14 c V (wF v a k V))) rfl (BF V)⟩
  ·have hi:(B0 v.ms a.pa).toNat<v.ms.length:=by
    have:=WZ v.ms a.pa;omega
   have c:=aDo v.nlm v.ms a.pa O hv.nlm hf hi;have ea:Rj (N2 v.ms a.pa):=⟨Ys,λm hm=>by
    rcases QQ.1 hm with h|h
    ·exact hv.ok.mp m (Ze h)
    ·exact hv.ok.mp m (ZC h)⟩
   have i:=Cf (PR hc (by rw[h];decide+kernel));have b:∀m∈N2 v.ms a.pa,m.1.length<=64:=λm hm=>by
    rcases QQ.1 hm with h|h
    ·exact hv.mr m (Ze h)
    ·exact hv.mr m (ZC h)
   have va:=ea.1;have ga:(N2 v.ms a.pa).length<=4:=Ys
   exact⟨_,Bj (umO (GE v) (decide (N2 v.ms a.pa=[])) (N2 v.ms a.pa) a.pa) (λk _=>Bw .o6 a k h ia _ _ (aPo ⟨v,a,k⟩ (GE v) _ _ c (Hx v) ea (by have:=ha.ok.pa;simp only;omega))) rfl (Dr .done rfl trivial rfl Xq (Nz O) (by simp[umO,Rv,Oc.op,GE]) ⟨by simp[umO,Rv,Oc.op,GE],by
    simp only[umO,Rv,Oc.op,GE,QG,List.cons_append,Q4];have:=Ob b;exact⟨Dl (.inl rfl) rfl (Qi _) O,V4 109 i,V4 100 i,λ_ h=>nomatch h⟩⟩ (Te hv ea (yF hv.srt) (λe=>of_decide_eq_true e) ga b))⟩
 ·have oa:=hv.kl;have hr:LV a.rs:=⟨Yo,λr hr=>QE (ha.ok.rs r hr).1 V,ha.cap⟩;have fa:=aQq (nl0:=v.nlt) (nl:=a.nlr) (l:=v.ks) (n:=a.ot) (p:=a.tk) (rs:=a.rs) O (λk hk=>(hv.ok.kp k hk).2) ha.nlr hr (by have:=ha.ok.ot;omega) Yn;have f:=aIW (nl:=v.nlt) (l:=v.ks) O;rcases zS v.ks (a.ot,a.tk,a.nlr,a.rs)with ⟨⟨l',e1⟩,e2,e3,e4,e5,e6⟩|⟨e1,e2⟩
  ·rw[e1]at fa;by_cases hm:(24:Int)<=((v.ks.map λk=>D.str k.1).length:Int)
   ·exact⟨_,Bj _ (λk _=>Bw .o7 a k h ia _ _ (aC3 ⟨v,a,k⟩ (GE v) _ _ (λ_=>rfl) false l' fa _ _ f hm (wF v a k V))) rfl (BF V)⟩
   ·have ba:=Vb (n:=a.ot) (p:=a.tk) (nl:=a.nlr) (t:=[]) (l:=a.rs) Yo hr.2.1 (by have:=ha.ok.ot;omega) Yn;simp only at e2;rw[e2]at ba;have j:=U9 (nl:=a.nlr) (l:=a.rs) Yo ha.ok.rs;have w:(if Cp a.rs=0 then Cw (BH a.rs)else []).length<=300:=by
     grind [qH]
    have la:=QE w (by decide:300<=60000);have ca:BI a.ot=true:=R4 e2;obtain⟨tp,ka,y⟩:=Ng e5;have qa:a.tk.length<=8:=by
     have:=Pd (hv.inv.name tp ka);rw[y]at this;exact this
    have ja:(BY [a.tk,if Cp a.rs=0 then Cw (BH a.rs)else []]).length<=400:=by rw[fG];omega
    have g:=oL a.ot a.tk a.nlr a.rs _ _ ba j Yn la;exact⟨_,Bj (mkO (GE v) false l' a.ot (BY [a.tk,if Cp a.rs=0 then Cw (BH a.rs)else []])) (λk _=>Bw .o7 a k h ia _ _ (aPn ⟨v,a,k⟩ (GE v) false l' fa _ _ f (Hx v) hm _ _ g (by have:=ha.ok.ot;simp only;omega))) rfl (Dr .done rfl trivial rfl Xq (Nz O) (by simp[mkO,SD,Oc.op,GE]) ⟨by simp[mkO,SD,Oc.op,GE],by
     simp only[mkO,SD,Oc.op,GE,QG,Q4];exact⟨Dl (.inl rfl) (aRh ca) (QE (Pd ca) V) ja,λ_ h=>nomatch h⟩⟩ (kK hv (nl:=false) (l:=l') (by
      have e7:l'=EU v.ks (a.ot,a.tk,a.nlr,a.rs):=ZY ((congrArg Prod.fst e1).symm.trans e6);rw[e7];exact⟨aAO hv.inv e2 e4 e5,by rw[Vl];rw[QH]at hm;omega,λk hk=>by
       rcases Ew.1 hk with hk|rfl
       ·exact hv.ok.kp k hk
       ·exact⟨⟨hr.1,ha.nlr⟩,hr⟩⟩)))⟩
  ·rw[e1]at fa;exact⟨_,Bj _ (λk _=>Bw .o7 a k h ia _ _ (aC4 ⟨v,a,k⟩ (GE v) _ _ (λ_=>rfl) v.nlt v.ks _ fa O (wF v a k e2))) rfl (BF e2)⟩
 ·obtain⟨r,hr,_⟩:=hv.inv.tree;have oa:=hv.kl;cases hf:A0 v.ks a.ot with
  |false=>
   have d:=aIo (nl:=v.nlt) O hr hf;exact⟨_,Bj _ (λk _=>Bw .o8 a k h ia _ _ (aC2 Rk ⟨v,a,k⟩ (GE v) _ _ (λ_=>rfl) v.nlt v.ks true [] 6 d V (wF v a k V))) rfl (BF V)⟩
  |true=>
   have d:=aEk (nl:=v.nlt) O hr hf;have z:(Cb v.ks a.ot).length<=v.ks.length+1:=by
    unfold Cb eW;rw[Qt];exact mW hr _ _
   have q:∀s∈Cb v.ks a.ot,BI s=true:=λs hs=>by
    have:=mV (Tp hs);obtain⟨u,hu,e⟩:=Ng hf;rcases Qq.1 this with rfl|h
    ·rw[←e];exact hv.inv.name u hu
    ·obtain⟨t,ht,rfl⟩:=Qv.1 h;exact hv.inv.name t ht
   have ua:Cb v.ks a.ot≠[]:=λe=>by
    have h1:(Cb v.ks a.ot).length=(DJ v.ks v.ks.length a.ot).length:=Qt _;rw[e]at h1;cases hk:v.ks.length<;>rw[hk]at h1<;>simp[DJ]at h1
   have na:∀s∈Cb v.ks a.ot,s.length<=1000000:=λs hs=>by
    have:=q s hs;unfold BI at this;simp only[QA,decide_eq_true_eq]at this;omega
   have hy:Hh (.names false (Cb v.ks a.ot))=0:=if_pos ⟨O,by
    rw[Zm];intro x hx;rw[aFX (q x hx)];decide⟩
   exact⟨_,Bj (qL (GE v) (decide (Cv v.ks (Cb v.ks a.ot)=[])) (Cv v.ks (Cb v.ks a.ot)) false (Cb v.ks a.ot)) (λk _=>Bw .o8 a k h ia _ _ (aPm Rk ⟨v,a,k⟩ (GE v) _ _ false (Cb v.ks a.ot) d (Hx v) ua O na (λe=>Xw))) rfl (Dr (.names false (Cb v.ks a.ot)) hy (λe=>Xw) rfl Xq (Nz O) (by simp[qL,Ds,SD,GE,ua]) ⟨by simp[qL,Ds,SD,GE];omega,λx hx=>by
    simp only[qL,Ds,SD,GE,QG]at hx;obtain⟨n,hn,rfl⟩:=Qv.1 hx;exact Dl (.inr ⟨rfl,rfl⟩) (aRh (q n hn)) (QE (Pd (q n hn)) V) (Qi _)⟩ (kK hv ⟨aAP hv.inv a.ot,QE (Zz _ _) oa,λk hk=>hv.ok.kp k (QR.1 hk).1⟩))⟩
end Go.Vd
end
