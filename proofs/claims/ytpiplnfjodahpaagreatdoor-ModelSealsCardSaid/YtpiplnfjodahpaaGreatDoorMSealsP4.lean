/- A part of the proof; nothing in it is assumed. -/
import Derived.Test.YtpiplnfjodahpaaGreatDoorMSealsP3
import Derived.Shelf.Strings.Repeat
import Derived.Laws.CopyOwn
import Derived.Shelf.Sort.Plain
import Derived.Shelf.Slices.CompactS
import Derived.Sort.OwnSorted
import Derived.Lib.OwnBridge
import Derived.Shelf.Slices.In.SortNone
import Derived.Laws.EntriesVeiled

set_option linter.unusedSimpArgs false
set_option linter.unusedVariables false
set_option linter.defProp false
set_option maxHeartbeats 4000000
set_option maxRecDepth 100000
open Nat renaming le_of_ble_eq_true→Qa,le_refl→Qe,zero_le→Qf,zero_add→Qj,succ_ne_zero→Ql,reduceEqDiff→Qw,zero_ne_one→QA,reduceAdd→QF,le_trans→QG,sub_zero→QK,lt_trichotomy→ZE,not_lt_zero→ZK,lt_or_ge→ZR
open List renaming length_cons→Qb,getElem?_eq_getElem→Qd,length_nil→Qg,length_append→Qh,filter_cons→Qi,mem_cons→Qn,mem_cons_self→Qo,mem_map→Qp,length_mergeSort→Qr,mem_cons_of_mem→Qt,length_map→Qv,getElem?_eq_some_iff→Qy,getD→Qz,nil_append→QC,pairwise_iff_getElem→QD,mem_append→QH,getElem_of_mem→QI,take_of_length_le→QJ,getElem_mem→QL,pairwise_cons→QM,nodup_iff_pairwise_ne→QN,getD_eq_getElem?_getD→QO,getElem?_append_left→QP,mem_filter→QQ,take_succ_eq_append_getElem→QR,mem_of_getElem?→QS,forall_mem_cons→QT,map_cons→QV,filter_sublist→QX,filter_append→QY,take_append_drop→Q_,append_assoc→Q0,drop_zero→Q2,mem_of_mem_take→Q3,length_filterMap_le→Q5,map_nil→Q6,getElem?_map→Q7,drop_eq_nil_of_le→Q8,all_eq_true→Q9,length_take→Za,eq_nil_of_length_eq_zero→Zc,countP_eq_length_filter→Zd,take_succ_cons→Ze,take_zero→Zf,mem_singleton→Zg,getElem?_append_right→Zh,find?_eq_none→Zi,any_eq_false→Zj,find?_append→Zk,not_mem_nil→Zl,take_length→Zn,length_eq_zero_iff→Zo,mem_flatMap→Zp,filter_eq_nil_iff→Zs,append_nil→Zu,map_append→Zv,length_filter_le→Zw,replicate→Zy,mem_of_mem_drop→Zz,take→ZA,mergeSort_perm→ZB,flatMap_cons→ZF,suffix_cons→ZG,isEmpty_iff→ZH,cons_append→ZI,length→ZJ,nodup_cons→ZL,find?_cons→ZM,map_take→ZO,getLast?→ZP,sum_cons→ZQ
open Go.Proofs.Tryz renaming prog→Qc
open List.cons renaming injEq→Qk,inj→ZV
open Int renaming toNat_natCast→Qm,toNat_of_nonneg→QW,toNat_zero→Q1,lt_irrefl→Zb,toNat_one→ZC,le_refl→ZS
open And renaming intro→Qq
open Option.some renaming injEq→Qs,inj→ZU
open Array renaming getElem?_eq_some_iff→Qu,size_push→QZ
open Option renaming map_eq_some_iff→Qx,isSome_some→QE,getD_some→Q4,bind_some→Zm
open Bool renaming and_eq_true→QB,true_or→Zq,or_true→Zr,or_eq_true→Zt,false_and→Zx,false_or→ZD,and_false→ZN
open Prod.mk renaming injEq→QU
open Iff renaming intro→ZT
open Go.Proofs.Tryz
noncomputable section
namespace Go.Vd
open Go.Proofs Go.RowKit
def P7:=Aq [(218,wQ CX),(221,wQ UU),(223,rdQ uB),(222,Ac aHK),(224,wQ US),(144,wQ NX),(145,wQ cO),(225,wQ aGM),(226,Ac aHI),(227,Ac aHG),(228,Ac aHE)]
def SZ:Wb->Oc->List D->Option WY:=RW P7 RD [] 172
def aVk:(wQ SZ).ok Qc 154:=De (Aj func154) (Aa aJg (Aa aJe (Aa aQz (Aa aSZ (Aa aSX (Aa Rx (Aa fW (Aa aSW (Aa aSV (Aa aSU (Aa aST Ad)))))))))))
def aCJ(w:Wb)(o:Oc)(s:Sc)(c:Bool)(b:Oc)(f:o.nl=true->o.ops=[])(z:CX w o [.str w.a.pa]=some (.tup [.agg (GG s),.bool c,.bool false],b,none)):SZ w o []=some (.tup [],b,none):=by
 refine A5 f ⟨Qa rfl,λh=>((EF z).2.1 rfl),λl h=>Xd,λi m fr t j x e n0=>?_⟩;have g:=Wt.start j x;unfold RD;have y:=AJ j.1;unfold GG at *;simp only[↓C2,GD,GN,Gy,simprocAttr,y,AD P7 218];refine Ap g z (λM c1 p=>?_);simp only[GC,↓C2,Gy,simprocAttr];exact c1.put.put.end0 j.2.2
def tT(w:Wb)(o:Oc)(s:Sc)(is:Bool)(b:Oc)(ol:Option (List Nat))(ho:o.nl=true->o.ops=[])(z:CX w o [.str w.a.pa]=some (.tup [.agg (GG s),.bool is,.bool true],o,none))(na:w.a.op=10)(f:UU w o [.str w.a.pa,.agg (GG s),.int .i64 w.a.cas,.str w.a.da]=some (.tup [],b,ol)):SZ w o []=some (.tup [],b,ol.map (·++[41])):=by
 refine A5 ho ⟨Qa rfl,λh=>Cw f h,λl h=>Cv f h,λi m fr t j x e n0=>?_⟩;have k:=Wt.start j x;unfold RD;have y:=AJ j.1;unfold GG at *;simp only[↓C2,GD,GN,Gy,simprocAttr,y,AD P7 218];refine Ap k z (λM c1 n=>?_);have y:=AJ c1.at_.1;simp only[GC,↓C2,Gy,simprocAttr,y,n0,AD P7 221,na];refine Co c1.put.put f (λr u v q c=>?_);simp only[↓C2,Hp,simprocAttr];refine As.intro (λp g=>Xr) ?_;simp only[↓C2,GD,simprocAttr];exact q.endc j.2.2
def aCI(w:Wb)(o:Oc)(s:Sc)(b:Oc)(ol:Option (List Nat))(f:o.nl=true->o.ops=[])(z:CX w o [.str w.a.pa]=some (.tup [.agg (GG s),.bool false,.bool true],o,none))(q:w.a.op≠10)(c:w.a.op≠15)(r:NX w o [.int .i64 6]=some (.tup [],b,ol)):SZ w o []=some (.tup [],b,ol.map (·++[35])):=by
 refine A5 f ⟨Qa rfl,λh=>Cw r h,λl h=>Cv r h,λi m fr t j x e n0=>?_⟩;have g:=Wt.start j x;unfold RD;have y:=AJ j.1;unfold GG at *;simp only[↓C2,GD,GN,Gy,simprocAttr,y,AD P7 218];refine Ap g z (λM c1 p=>?_);have y:=AJ c1.at_.1;simp only[GC,↓C2,Gy,simprocAttr,y,n0,eq_false q,eq_false c,AD P7 144];refine Ap c1.put.put r (λk d1 u=>?_);simp only[↓C2,GD,simprocAttr];exact d1.endc j.2.2
def tV(w:Wb)(o:Oc)(s:Sc)(b:Oc)(ol:Option (List Nat))(f:o.nl=true->o.ops=[])(z:CX w o [.str w.a.pa]=some (.tup [.agg (GG s),.bool true,.bool true],o,none))(na:w.a.op=14)(c:cO w o [.agg (Hh (.about s))]=some (.tup [],b,ol)):SZ w o []=some (.tup [],b,ol.map (·++[44])):=by
 refine A5 f ⟨Qa rfl,λh=>Cw c h,λl h=>Cv c h,λi m fr t j x e n0=>?_⟩;have g:=Wt.start j x;unfold RD;have y:=AJ j.1;unfold GG at *;simp only[↓C2,GD,GN,Gy,simprocAttr,y,AD P7 218];refine Ap g z (λM c1 p=>?_);have y:=AJ c1.at_.1;simp only[GC,↓C2,Gy,simprocAttr,y,n0,AD P7 145,na];refine Ap c1.put.put c (λk q u=>?_);simp only[↓C2,GD,simprocAttr];exact q.endc j.2.2
def tU(w:Wb)(o:Oc)(s:Sc)(g:Oc)(ol:Option (List Nat))(f:o.nl=true->o.ops=[])(z:CX w o [.str w.a.pa]=some (.tup [.agg (GG s),.bool true,.bool true],o,none))(na:w.a.op=16)(b:aGM w o [.agg (GG s)]=some (.tup [],g,ol)):SZ w o []=some (.tup [],g,ol.map (·++[50])):=by
 refine A5 f ⟨Qa rfl,λh=>Cw b h,λl h=>Cv b h,λi m fr t j x e n0=>?_⟩;have k:=Wt.start j x;unfold RD;have y:=AJ j.1;unfold GG at *;simp only[↓C2,GD,GN,Gy,simprocAttr,y,AD P7 218];refine Ap k z (λM c1 p=>?_);have y:=AJ c1.at_.1;simp only[GC,↓C2,Gy,simprocAttr,y,n0,AD P7 225,na];refine Ap c1.put.put b (λr q c=>?_);simp only[↓C2,GD,simprocAttr];exact q.endc j.2.2
def jG(w:Wb)(o:Oc)(s:Sc)(is:Bool)(g:Oc)(ol:Option (List Nat))(f:o.nl=true->o.ops=[])(z:CX w o [.str w.a.pa]=some (.tup [.agg (GG s),.bool is,.bool true],o,none))(na:w.a.op=15)(q:Int)(b:Bool)(s2:Sc)(gnl:Bool)(gone:List Int)(e:Int)(r:US w o [.agg (GG s2),.slice gnl [] (AH gone),.int .i64 e]=some (.tup [],g,ol))(c:uB w o [.str w.a.pa]=some (.agg [.int .i64 q,.bool b],o,none))(d:aHK [.agg (GG s),.agg [.int .i64 q,.bool b],.int .i64 w.a.n,.bool w.a.fl]=some (.tup [.agg (GG s2),.slice gnl [] (AH gone),.int .i64 e])):SZ w o []=some (.tup [],g,ol.map (·++[62])):=by
 refine A5 f ⟨Qa rfl,λh=>Cw r h,λl h=>Cv r h,λi m fr t j x u n0=>?_⟩;have k:=Wt.start j x;unfold RD;have y:=AJ j.1;unfold GG at *;simp only[↓C2,GD,GN,Gy,simprocAttr,y,AD P7 218];refine Ap k z (λM c1 v=>?_);have y:=AJ c1.at_.1;simp only[GC,↓C2,Gy,simprocAttr,y,n0,AD P7 223,na];have a1:=aCt (((c1.put (q:=11) (p:=0) (ys:=[.int .i64 0,.bool false,.int .i64 0,.slice true [] []])).put (q:=11) (p:=0) (ys:=[.int .i64 s.mx,.bool s.cas,.int .i64 s.la,.slice s.nl [] (A6 s.rs)])).at_.1);refine aOh c1.put.put.at_ c ?_;simp only[GC,↓C2,Gy,simprocAttr,y,n0,Ae P7 222,d];refine Va ?_;simp only[GC,↓C2,Gy,simprocAttr,AD P7 224];refine Ap c1.put.put.put.put r (λM2 d1 d2=>?_);simp only[↓C2,GD,simprocAttr];exact d1.endc j.2.2
def jF(w:Wb)(o:Oc)(s:Sc)(b:Oc)(ol:Option (List Nat))(f:o.nl=true->o.ops=[])(z:CX w o [.str w.a.pa]=some (.tup [.agg (GG s),.bool true,.bool true],o,none))(na:w.a.op=11)(n:Sc)(e:Int)(r:US w o [.agg (GG n),.slice true [] [],.int .i64 e]=some (.tup [],b,ol))(v:aHI [.agg (GG s),.slice w.a.nln [] (AH w.a.ns)]=some (.tup [.agg (GG n),.int .i64 e])):SZ w o []=some (.tup [],b,ol.map (·++[71])):=by
 refine A5 f ⟨Qa rfl,λh=>Cw r h,λl h=>Cv r h,λi m fr t j x u n0=>?_⟩;have g:=Wt.start j x;unfold RD;have y:=AJ j.1;unfold GG at *;simp only[↓C2,GD,GN,Gy,simprocAttr,y,AD P7 218];refine Ap g z (λM c1 p=>?_);have y:=AJ c1.at_.1;simp only[GC,↓C2,Gy,simprocAttr,y,n0,Ae P7 226,v,na];refine Va ?_;simp only[GC,↓C2,Gy,simprocAttr,AD P7 224];refine Ap c1.put.put.put.put r (λk q c=>?_);simp only[↓C2,GD,simprocAttr];exact q.endc j.2.2
def UO(w:Wb)(o:Oc)(s:Sc)(b:Oc)(ol:Option (List Nat))(f:o.nl=true->o.ops=[])(z:CX w o [.str w.a.pa]=some (.tup [.agg (GG s),.bool true,.bool true],o,none))(na:w.a.op=12)(n:Sc)(e:Int)(r:US w o [.agg (GG n),.slice true [] [],.int .i64 e]=some (.tup [],b,ol))(v:aHG [.agg (GG s),.slice w.a.nln [] (AH w.a.ns)]=some (.tup [.agg (GG n),.int .i64 e])):SZ w o []=some (.tup [],b,ol.map (·++[78])):=by
 refine A5 f ⟨Qa rfl,λh=>Cw r h,λl h=>Cv r h,λi m fr t j x u n0=>?_⟩;have g:=Wt.start j x;unfold RD;have y:=AJ j.1;unfold GG at *;simp only[↓C2,GD,GN,Gy,simprocAttr,y,AD P7 218];refine Ap g z (λM c1 p=>?_);have y:=AJ c1.at_.1;simp only[GC,↓C2,Gy,simprocAttr,y,n0,Ae P7 227,v,na];refine Va ?_;simp only[GC,↓C2,Gy,simprocAttr,AD P7 224];refine Ap c1.put.put.put.put r (λk q c=>?_);simp only[↓C2,GD,simprocAttr];exact q.endc j.2.2
def cL(w:Wb)(o:Oc)(s:Sc)(b:Oc)(ol:Option (List Nat))(f:o.nl=true->o.ops=[])(z:CX w o [.str w.a.pa]=some (.tup [.agg (GG s),.bool true,.bool true],o,none))(na:w.a.op=13)(n:Sc)(gnl:Bool)(gone:List Int)(e:Int)(r:US w o [.agg (GG n),.slice gnl [] (AH gone),.int .i64 e]=some (.tup [],b,ol))(v:aHE [.agg (GG s),.slice w.a.nln [] (AH w.a.ns)]=some (.tup [.agg (GG n),.slice gnl [] (AH gone),.int .i64 e])):SZ w o []=some (.tup [],b,ol.map (·++[81])):=by
 refine A5 f ⟨Qa rfl,λh=>Cw r h,λl h=>Cv r h,λi m fr t j x u n0=>?_⟩;have g:=Wt.start j x;unfold RD;have y:=AJ j.1;unfold GG at *;simp only[↓C2,GD,GN,Gy,simprocAttr,y,AD P7 218];refine Ap g z (λM c1 p=>?_);have y:=AJ c1.at_.1;simp only[GC,↓C2,Gy,simprocAttr,y,n0,Ae P7 228,v,na];refine Va ?_;simp only[GC,↓C2,Gy,simprocAttr,AD P7 224];refine Ap c1.put.put.put.put r (λk q c=>?_);simp only[↓C2,GD,simprocAttr];exact q.endc j.2.2
def He:=Aq [(218,wQ CX),(144,wQ NX),(219,Ac Nw),(211,Ac EZ),(220,Ac N7),(216,wQ UV),(145,wQ cO),(221,wQ UU)]
def Vb:Wb->Oc->List D->Option WY:=RW He Nh [] 113
def aVl:(wQ Vb).ok Qc 153:=De (Aj func153) (Aa aJg (Aa Rx (Aa aS0 (Aa Ii (Aa aJf (Aa aAc (Aa fW (Aa aJe Ad))))))))
def aCL(w:Wb)(o:Oc)(s:Sc)(c:Bool)(b:Oc)(f:o.nl=true->o.ops=[])(z:CX w o [.str w.a.pa]=some (.tup [.agg (GG s),.bool c,.bool false],b,none)):Vb w o []=some (.tup [],b,none):=by
 refine A5 f ⟨Qa rfl,λh=>((EF z).2.1 rfl),λl h=>Xd,λi m fr t j x e n0=>?_⟩;have g:=Wt.start j x;unfold Nh;have y:=AJ j.1;unfold GG at *;simp only[↓C2,GD,GN,Gy,simprocAttr,y,AD He 218];refine Ap g z (λM c1 p=>?_);simp only[GC,↓C2,Gy,simprocAttr];exact c1.put.put.end0 j.2.2
def aCK(w:Wb)(o:Oc)(s:Sc)(b:Oc)(ol:Option (List Nat))(f:o.nl=true->o.ops=[])(z:CX w o [.str w.a.pa]=some (.tup [.agg (GG s),.bool false,.bool true],o,none))(r:NX w o [.int .i64 6]=some (.tup [],b,ol)):Vb w o []=some (.tup [],b,ol.map (·++[20])):=by
 refine A5 f ⟨Qa rfl,λh=>Cw r h,λl h=>Cv r h,λi m fr t j x e n0=>?_⟩;have g:=Wt.start j x;unfold Nh;have y:=AJ j.1;unfold GG at *;simp only[↓C2,GD,GN,Gy,simprocAttr,y,AD He 218];refine Ap g z (λM c1 p=>?_);have y:=AJ c1.at_.1;simp only[GC,↓C2,Gy,simprocAttr,AD He 144];refine Ap c1.put.put r (λk q c=>?_);simp only[↓C2,GD,simprocAttr];exact q.endc j.2.2
def tY(w:Wb)(o:Oc)(s:Sc)(b:Oc)(ol:Option (List Nat))(p:o.nl=true->o.ops=[])(z:CX w o [.str w.a.pa]=some (.tup [.agg (GG s),.bool true,.bool true],o,none))(na:w.a.op=9)(nn e:Int)(k rb:Bool)(c:Nw [.agg (GG s),.int .i64 (w.a.n)]=some (.tup [.agg [.int .i64 nn,.bool k,.bool rb],.int .i64 e]))(f:e≠0)(r:NX w o [.int .i64 e]=some (.tup [],b,ol)):Vb w o []=some (.tup [],b,ol.map (·++[44])):=by
 refine A5 p ⟨Qa rfl,λh=>Cw r h,λl h=>Cv r h,λi m fr t j x u n0=>?_⟩;have g:=Wt.start j x;unfold Nh;have y:=AJ j.1;unfold GG at *;simp only[↓C2,GD,GN,Gy,simprocAttr,y,AD He 218];refine Ap g z (λM c1 v=>?_);have y:=AJ c1.at_.1;simp only[GC,↓C2,Gy,simprocAttr,y,n0,Ae He 219,c,eq_false f,AD He 144,na];refine Ap c1.put.put.put.put r (λM2 q d2=>?_);simp only[↓C2,GD,simprocAttr];exact q.endc j.2.2
def tW(w:Wb)(o:Oc)(s:Sc)(o2:Oc)(ol:Option (List Nat))(ho:o.nl=true->o.ops=[])(z:CX w o [.str w.a.pa]=some (.tup [.agg (GG s),.bool true,.bool true],o,none))(na:w.a.op=9)(nn:Int)(u rb:Bool)(c:Nw [.agg (GG s),.int .i64 (w.a.n)]=some (.tup [.agg [.int .i64 nn,.bool u,.bool rb],.int .i64 0]))(at_ b:Bs)(q:Bool)(r:EZ [.int .u8 2,.str w.a.pa,.int .i64 nn]=some (.str at_))(y:N7 [.agg (Ha w.k),.str at_]=some (.tup [.str b,.bool q,.bool false]))(f:UV w o [.str at_,.bool false]=some (.tup [],o2,ol)):Vb w o []=some (.tup [],o2,ol.map (·++[69])):=by
 refine A5 ho ⟨Qa rfl,λh=>Cw f h,λl h=>Cv f h,λi m fr t j x e n0=>?_⟩;have hW:=Wt.start j x;unfold Nh;have xx:=AJ j.1;unfold GG at *;unfold Ha at y;simp only[↓C2,GD,GN,Gy,simprocAttr,xx,AD He 218];refine Ap hW z (λM c1 v=>?_);have xx:=AJ c1.at_.1;simp only[GC,↓C2,Gy,simprocAttr,xx,n0,Ae He 219,c,Ae He 211,r,na];refine As.intro (λp g=>Xr) ?_;simp only[GC,↓C2,Gy,simprocAttr,xx,n0,Ae He 220,y,AD He 216];refine Ap c1.put.put.put.put f (λM2 d1 d2=>?_);simp only[↓C2,GD,simprocAttr];exact d1.endc j.2.2
def cM(w:Wb)(o:Oc)(s:Sc)(o2:Oc)(ol:Option (List Nat))(f:o.nl=true->o.ops=[])(z:CX w o [.str w.a.pa]=some (.tup [.agg (GG s),.bool true,.bool true],o,none))(na:w.a.op=9)(nn:Int)(u rb:Bool)(c:Nw [.agg (GG s),.int .i64 (w.a.n)]=some (.tup [.agg [.int .i64 nn,.bool u,.bool rb],.int .i64 0]))(at_ b:Bs)(r:EZ [.int .u8 2,.str w.a.pa,.int .i64 nn]=some (.str at_))(y:N7 [.agg (Ha w.k),.str at_]=some (.tup [.str b,.bool true,.bool true]))(ua:cO w o [.agg (Hh (.found nn b))]=some (.tup [],o2,ol)):Vb w o []=some (.tup [],o2,ol.map (·++[81])):=by
 refine A5 f ⟨Qa rfl,λh=>Cw ua h,λl h=>Cv ua h,λi m fr t j x e n0=>?_⟩;have hW:=Wt.start j x;unfold Nh;have xx:=AJ j.1;unfold GG at *;unfold Ha at y;simp only[↓C2,GD,GN,Gy,simprocAttr,xx,AD He 218];refine Ap hW z (λM c1 v=>?_);have xx:=AJ c1.at_.1;simp only[GC,↓C2,Gy,simprocAttr,xx,n0,Ae He 219,c,Ae He 211,r,na];refine As.intro (λp g=>Xr) ?_;simp only[GC,↓C2,Gy,simprocAttr,xx,n0,Ae He 220,y,AD He 145,na];refine Ap c1.put.put.put.put ua (λM2 q d2=>?_);simp only[↓C2,GD,simprocAttr];exact q.endc j.2.2
def UP(w:Wb)(o:Oc)(s:Sc)(o2:Oc)(ol:Option (List Nat))(f:o.nl=true->o.ops=[])(z:CX w o [.str w.a.pa]=some (.tup [.agg (GG s),.bool true,.bool true],o,none))(na:w.a.op=9)(nn:Int)(u rb:Bool)(c:Nw [.agg (GG s),.int .i64 (w.a.n)]=some (.tup [.agg [.int .i64 nn,.bool u,.bool rb],.int .i64 0]))(at_ b:Bs)(r:EZ [.int .u8 2,.str w.a.pa,.int .i64 nn]=some (.str at_))(y:N7 [.agg (Ha w.k),.str at_]=some (.tup [.str b,.bool false,.bool true]))(ua:cO w o [.agg (Hh (.found nn []))]=some (.tup [],o2,ol)):Vb w o []=some (.tup [],o2,ol.map (·++[82])):=by
 refine A5 f ⟨Qa rfl,λh=>Cw ua h,λl h=>Cv ua h,λi m fr t j x e n0=>?_⟩;have hW:=Wt.start j x;unfold Nh;have xx:=AJ j.1;unfold GG at *;unfold Ha at y;simp only[↓C2,GD,GN,Gy,simprocAttr,xx,AD He 218];refine Ap hW z (λM c1 v=>?_);have xx:=AJ c1.at_.1;simp only[GC,↓C2,Gy,simprocAttr,xx,n0,Ae He 219,c,Ae He 211,r,na];refine As.intro (λp g=>Xr) ?_;simp only[GC,↓C2,Gy,simprocAttr,xx,n0,Ae He 220,y,AD He 145,na];refine Ap c1.put.put.put.put ua (λM2 q d2=>?_);simp only[↓C2,GD,simprocAttr];exact q.endc j.2.2
def jI(w:Wb)(o:Oc)(s:Sc)(b:Oc)(ol:Option (List Nat))(p:o.nl=true->o.ops=[])(z:CX w o [.str w.a.pa]=some (.tup [.agg (GG s),.bool true,.bool true],o,none))(na:w.a.op=18)(nn e:Int)(k rb:Bool)(c:Nw [.agg (GG s),.int .i64 (0)]=some (.tup [.agg [.int .i64 nn,.bool k,.bool rb],.int .i64 e]))(f:e≠0)(r:NX w o [.int .i64 e]=some (.tup [],b,ol)):Vb w o []=some (.tup [],b,ol.map (·++[45])):=by
 refine A5 p ⟨Qa rfl,λh=>Cw r h,λl h=>Cv r h,λi m fr t j x u n0=>?_⟩;have g:=Wt.start j x;unfold Nh;have y:=AJ j.1;unfold GG at *;simp only[↓C2,GD,GN,Gy,simprocAttr,y,AD He 218];refine Ap g z (λM c1 n=>?_);have y:=AJ c1.at_.1;simp only[GC,↓C2,Gy,simprocAttr,y,n0,Ae He 219,c,eq_false f,AD He 144,na];refine Ap c1.put.put.put.put r (λv q d2=>?_);simp only[↓C2,GD,simprocAttr];exact q.endc j.2.2
def jH(w:Wb)(o:Oc)(s:Sc)(v:Oc)(ol:Option (List Nat))(ho:o.nl=true->o.ops=[])(z:CX w o [.str w.a.pa]=some (.tup [.agg (GG s),.bool true,.bool true],o,none))(na:w.a.op=18)(nn:Int)(u rb:Bool)(c:Nw [.agg (GG s),.int .i64 (0)]=some (.tup [.agg [.int .i64 nn,.bool u,.bool rb],.int .i64 0]))(at_ b:Bs)(q:Bool)(r:EZ [.int .u8 2,.str w.a.pa,.int .i64 nn]=some (.str at_))(y:N7 [.agg (Ha w.k),.str at_]=some (.tup [.str b,.bool q,.bool false]))(f:UV w o [.str at_,.bool false]=some (.tup [],v,ol)):Vb w o []=some (.tup [],v,ol.map (·++[70])):=by
 refine A5 ho ⟨Qa rfl,λh=>Cw f h,λl h=>Cv f h,λi m fr t j x e n0=>?_⟩;have hW:=Wt.start j x;unfold Nh;have xx:=AJ j.1;unfold GG at *;unfold Ha at y;simp only[↓C2,GD,GN,Gy,simprocAttr,xx,AD He 218];refine Ap hW z (λM c1 n=>?_);have xx:=AJ c1.at_.1;simp only[GC,↓C2,Gy,simprocAttr,xx,n0,Ae He 219,c,Ae He 211,r,na];refine As.intro (λp g=>Xr) ?_;simp only[GC,↓C2,Gy,simprocAttr,xx,n0,Ae He 220,y,AD He 216];refine Ap c1.put.put.put.put f (λM2 d1 d2=>?_);simp only[↓C2,GD,simprocAttr];exact d1.endc j.2.2
def Ns(w:Wb)(o:Oc)(s:Sc)(o2:Oc)(f:o.nl=true->o.ops=[])(z:CX w o [.str w.a.pa]=some (.tup [.agg (GG s),.bool true,.bool true],o,none))(na:w.a.op=18)(nn:Int)(u rb:Bool)(c:Nw [.agg (GG s),.int .i64 (0)]=some (.tup [.agg [.int .i64 nn,.bool u,.bool rb],.int .i64 0]))(at_ b:Bs)(r:EZ [.int .u8 2,.str w.a.pa,.int .i64 nn]=some (.str at_))(y:N7 [.agg (Ha w.k),.str at_]=some (.tup [.str b,.bool true,.bool true]))(s2:Sc)(n:Bool)(q:CX w o [.str w.a.ot]=some (.tup [.agg (GG s2),.bool n,.bool false],o2,none)):Vb w o []=some (.tup [],o2,none):=by
 refine A5 f ⟨Qa rfl,λh=>((EF q).2.1 rfl),λl h=>Xd,λi m fr t j x e n0=>?_⟩;have hW:=Wt.start j x;unfold Nh;have xx:=AJ j.1;unfold GG at *;unfold Ha at y;simp only[↓C2,GD,GN,Gy,simprocAttr,xx,AD He 218];refine Ap hW z (λM c1 v=>?_);have xx:=AJ c1.at_.1;simp only[GC,↓C2,Gy,simprocAttr,xx,n0,Ae He 219,c,Ae He 211,r,na];refine As.intro (λp g=>Xr) ?_;simp only[GC,↓C2,Gy,simprocAttr,xx,n0,Ae He 220,y,AD He 218,na];refine Ap c1.put.put.put.put q (λM2 d1 d2=>?_);have xx:=AJ d1.at_.1;simp only[GC,↓C2,Gy,simprocAttr];exact d1.put.put.end0 j.2.2
def cN(w:Wb)(o:Oc)(s:Sc)(o2:Oc)(ol:Option (List Nat))(ho:o.nl=true->o.ops=[])(z:CX w o [.str w.a.pa]=some (.tup [.agg (GG s),.bool true,.bool true],o,none))(na:w.a.op=18)(nn:Int)(ra rb:Bool)(c:Nw [.agg (GG s),.int .i64 (0)]=some (.tup [.agg [.int .i64 nn,.bool ra,.bool rb],.int .i64 0]))(at_ b:Bs)(r:EZ [.int .u8 2,.str w.a.pa,.int .i64 nn]=some (.str at_))(y:N7 [.agg (Ha w.k),.str at_]=some (.tup [.str b,.bool true,.bool true]))(s2:Sc)(n:Bool)(q:CX w o [.str w.a.ot]=some (.tup [.agg (GG s2),.bool n,.bool true],o,none))(f:UU w o [.str w.a.ot,.agg (GG s2),.int .i64 (-1),.str b]=some (.tup [],o2,ol)):Vb w o []=some (.tup [],o2,ol.map (·++[101])):=by
 refine A5 ho ⟨Qa rfl,λh=>Cw f h,λl h=>Cv f h,λi m fr t j x e n0=>?_⟩;have hW:=Wt.start j x;unfold Nh;have xx:=AJ j.1;unfold GG at *;unfold Ha at y;simp only[↓C2,GD,GN,Gy,simprocAttr,xx,AD He 218];refine Ap hW z (λM c1 c2=>?_);have xx:=AJ c1.at_.1;simp only[GC,↓C2,Gy,simprocAttr,xx,n0,Ae He 219,c,Ae He 211,r,na];refine As.intro (λp g=>Xr) ?_;simp only[GC,↓C2,Gy,simprocAttr,xx,n0,Ae He 220,y,AD He 218,na];refine Ap c1.put.put.put.put q (λM2 d1 d2=>?_);have xx:=AJ d1.at_.1;simp only[GC,↓C2,Gy,simprocAttr,xx,n0,AD He 221];refine Co d1.put.put f (λM3 u hu v e2=>?_);simp only[↓C2,Hp,simprocAttr];refine As.intro (λp g=>Xr) ?_;simp only[↓C2,GD,simprocAttr];exact v.endc j.2.2
def MA(w:Wb)(o:Oc)(s:Sc)(o2:Oc)(f:o.nl=true->o.ops=[])(z:CX w o [.str w.a.pa]=some (.tup [.agg (GG s),.bool true,.bool true],o,none))(na:w.a.op=18)(nn:Int)(u rb:Bool)(c:Nw [.agg (GG s),.int .i64 (0)]=some (.tup [.agg [.int .i64 nn,.bool u,.bool rb],.int .i64 0]))(at_ b:Bs)(r:EZ [.int .u8 2,.str w.a.pa,.int .i64 nn]=some (.str at_))(y:N7 [.agg (Ha w.k),.str at_]=some (.tup [.str b,.bool false,.bool true]))(s2:Sc)(n:Bool)(q:CX w o [.str w.a.ot]=some (.tup [.agg (GG s2),.bool n,.bool false],o2,none)):Vb w o []=some (.tup [],o2,none):=by
 refine A5 f ⟨Qa rfl,λh=>((EF q).2.1 rfl),λl h=>Xd,λi m fr t j x e n0=>?_⟩;have hW:=Wt.start j x;unfold Nh;have xx:=AJ j.1;unfold GG at *;unfold Ha at y;simp only[↓C2,GD,GN,Gy,simprocAttr,xx,AD He 218];refine Ap hW z (λM c1 v=>?_);have xx:=AJ c1.at_.1;simp only[GC,↓C2,Gy,simprocAttr,xx,n0,Ae He 219,c,Ae He 211,r,na];refine As.intro (λp g=>Xr) ?_;simp only[GC,↓C2,Gy,simprocAttr,xx,n0,Ae He 220,y,AD He 218,na];refine Ap c1.put.put.put.put q (λM2 d1 d2=>?_);have xx:=AJ d1.at_.1;simp only[GC,↓C2,Gy,simprocAttr];exact d1.put.put.end0 j.2.2
def UQ(w:Wb)(o:Oc)(s:Sc)(o2:Oc)(ol:Option (List Nat))(ho:o.nl=true->o.ops=[])(z:CX w o [.str w.a.pa]=some (.tup [.agg (GG s),.bool true,.bool true],o,none))(na:w.a.op=18)(nn:Int)(ra rb:Bool)(c:Nw [.agg (GG s),.int .i64 (0)]=some (.tup [.agg [.int .i64 nn,.bool ra,.bool rb],.int .i64 0]))(at_ b:Bs)(r:EZ [.int .u8 2,.str w.a.pa,.int .i64 nn]=some (.str at_))(y:N7 [.agg (Ha w.k),.str at_]=some (.tup [.str b,.bool false,.bool true]))(s2:Sc)(n:Bool)(q:CX w o [.str w.a.ot]=some (.tup [.agg (GG s2),.bool n,.bool true],o,none))(f:UU w o [.str w.a.ot,.agg (GG s2),.int .i64 (-1),.str []]=some (.tup [],o2,ol)):Vb w o []=some (.tup [],o2,ol.map (·++[102])):=by
 refine A5 ho ⟨Qa rfl,λh=>Cw f h,λl h=>Cv f h,λi m fr t j x e n0=>?_⟩;have hW:=Wt.start j x;unfold Nh;have xx:=AJ j.1;unfold GG at *;unfold Ha at y;simp only[↓C2,GD,GN,Gy,simprocAttr,xx,AD He 218];refine Ap hW z (λM c1 c2=>?_);have xx:=AJ c1.at_.1;simp only[GC,↓C2,Gy,simprocAttr,xx,n0,Ae He 219,c,Ae He 211,r,na];refine As.intro (λp g=>Xr) ?_;simp only[GC,↓C2,Gy,simprocAttr,xx,n0,Ae He 220,y,AD He 218,na];refine Ap c1.put.put.put.put q (λM2 d1 d2=>?_);have xx:=AJ d1.at_.1;simp only[GC,↓C2,Gy,simprocAttr,xx,n0,AD He 221];refine Co d1.put.put f (λM3 u hu v e2=>?_);simp only[↓C2,Hp,simprocAttr];refine As.intro (λp g=>Xr) ?_;simp only[↓C2,GD,simprocAttr];exact v.endc j.2.2
def aKQ:=y0 f141 [] []
def aLz:=y0 f85 [] []
end Go.Vd
namespace Go.Proofs
open Go.Shelf
def aQ:Go.Shelf.Ren:=⟨λ|105=>84|212=>139|99=>51|165=>121|166=>122|170=>140|169=>123|263=>204|264=>205|206=>105|240=>183|241=>184|276=>245|277=>246|n=>n,λ|9=>9|3=>3|4=>4|20=>20|0=>0|46=>109|109=>221|5=>5|72=>196|76=>200|51=>268|146=>269|53=>185|148=>271|70=>194|37=>108|75=>199|127=>252|164=>309|80=>159|n=>n,λ|n=>n⟩
def bK:Go.Proofs.Lays.n105 Qc aQ:={
 mixed:=Xa
 f99:=func51.trans (congrArg some Xa)
 f105:=func84.trans (congrArg some Xa)
 f165:=func121.trans (congrArg some Xa)
 f166:=func122.trans (congrArg some Xa)
 f169:=func123.trans (congrArg some Xa)
 f170:=func140.trans (congrArg some Xa)
 f206:=func105.trans (congrArg some Xa)
 f212:=func139.trans (congrArg some Xa)
 f240:=func183.trans (congrArg some Xa)
 f241:=func184.trans (congrArg some Xa)
 f263:=func204.trans (congrArg some Xa)
 f264:=func205.trans (congrArg some Xa)
 f276:=func245.trans (congrArg some Xa)
 f277:=func246.trans (congrArg some Xa)
 t0:=underlying0
 a0:=isAgg0
 z0:=sizeOf0
 v0:=zeroValue0
 t3:=underlying3
 a3:=isAgg3
 z3:=sizeOf3
 v3:=zeroValue3
 t4:=underlying4
 a4:=isAgg4
 z4:=sizeOf4
 v4:=zeroValue4
 t5:=underlying5
 a5:=isAgg5
 z5:=sizeOf5
 v5:=zeroValue5
 t9:=underlying9
 a9:=isAgg9
 z9:=sizeOf9
 v9:=zeroValue9
 t20:=underlying20
 a20:=isAgg20
 z20:=sizeOf20
 v20:=zeroValue20
 t37:=underlying108
 a37:=isAgg108
 z37:=sizeOf108
 v37:=zeroValue108
 t46:=underlying109
 a46:=isAgg109
 z46:=sizeOf109
 v46:=zeroValue109
 t51:=underlying268
 a51:=isAgg268
 z51:=sizeOf268
 v51:=zeroValue268
 t53:=underlying185
 a53:=isAgg185
 z53:=sizeOf185
 v53:=zeroValue185
 t70:=underlying194
 a70:=isAgg194
 z70:=sizeOf194
 v70:=zeroValue194
 t72:=underlying196
 a72:=isAgg196
 z72:=sizeOf196
 v72:=zeroValue196
 t75:=underlying199
 a75:=isAgg199
 z75:=sizeOf199
 v75:=zeroValue199
 t76:=underlying200
 a76:=isAgg200
 z76:=sizeOf200
 v76:=zeroValue200
 t109:=underlying221
 a109:=isAgg221
 z109:=sizeOf221
 v109:=zeroValue221
 t127:=underlying252
 a127:=isAgg252
 z127:=sizeOf252
 v127:=zeroValue252
 t146:=underlying269
 a146:=isAgg269
 z146:=sizeOf269
 v146:=zeroValue269
 t148:=underlying271
 a148:=isAgg271
 z148:=sizeOf271
 v148:=zeroValue271
 t164:=underlying309
 a164:=isAgg309
 z164:=sizeOf309
 v164:=zeroValue309}
def aV:Builder.Extra Qc aQ:={
 sizeBuilder:=Xa
 liesBuilder:=Xa
 t5:=underlying5
 a5:=isAgg5
 z5:=sizeOf5
 v5:=zeroValue5
 infoByte:=Xa
 cellsByte:=Xa
 sizeByte:=Xa
 neB5:=V}
end Go.Proofs
namespace Go.Vd
open Go.Proofs Go.RowKit
def zB(t:Int):Bool:=decide (1<=t∧t<=6)
def Rv(t:Int):Int:=if zB t=true then 1+t*16 else 0
def aV5:=Aq []
def aPA:=RF aV5 aKQ [.t 2] 9
def aSO:Kq aPA 141:=An (Aj func141) Ad
def aHw(t:Int):aPA [.int .i64 t]=some (.bool (zB t)):=by
 refine Al (Qa rfl) ?_;unfold aKQ;unfold zB;by_cases c:1<=t
 ·have c':((1:Int)<=t)=True:=eq_true c;simp only[↓C2,GA,Gy,simprocAttr,c']
  all_goals exact YR
 ·have c':((1:Int)<=t)=False:=eq_false c;simp only[↓C2,GA,Gy,simprocAttr,c']
  all_goals exact YR
def aO3:=Aq [(141,Ac aPA)]
def aDb:=RF aO3 aLz [.t 2] 9
def aJj:Kq aDb 85:=An (Aj func85) (Aa aSO Ad)
def oB(t:Int):aDb [.int .i64 t]=some (.int .i64 (Rv t)):=by
 refine Al (Qa rfl) ?_;unfold aLz;have a:=aHw t;unfold Rv;cases c:zB t with
 |false=>
  rw[c]at a;simp only[↓C2,GA,Gy,simprocAttr,Ae aO3 141,a]
  all_goals exact YR
 |true=>
  have m:1<=t∧t<=6:=by simpa[zB]using c
  have v:IntKind.i64.wrap (t*16)=t*16:=GZ O O;have p:IntKind.i64.wrap (1+t*16)=1+t*16:=GZ O O;rw[c]at a;simp only[↓C2,GA,Gy,simprocAttr,Ae aO3 141,a,v,p]
  all_goals exact YR
def RP:List D->Option D
 |[.str s,.int .i64 c]=>if 0<=c∧c<=1000000∧s.length*c.toNat<=1000000 then some (.str (Lib.repeatL s c.toNat))else none
 |_=>none
def aJk:Kq RP 84:=TD ⟨_,func84,Xa,Xa⟩ λds r h=>by
 unfold RP at h;split at h
 ·rename_i s c;split at h
  ·rename_i o;simp only[Qs]at h;subst h;refine⟨λd p=>?_,_,λw g=> .str _,λw=>?_⟩
   ·simp only[Qn,List.mem_nil_iff,or_false]at p;rcases p with rfl|rfl<;>rfl
   ·have f:=Go.Proofs.Any.strings_Repeat bK aV ⟨s.toArray⟩ c.toNat w O (by show s.toArray.size*_<=_;simp only[List.size_toArray];omega);rw[QW o.1]at f;refine f.mono ?_;rintro e i ⟨rfl,m⟩;exact⟨rfl,m⟩
  ·cases h
 ·cases h
def aUs{s:Bs}{c:Int}(h:0<=c∧c<=1000000∧s.length*c.toNat<=1000000):RP [.str s,.int .i64 c]=some (.str (Lib.repeatL s c.toNat)):=if_pos h
def aFj(o:Oc)(te:Int):Oc:={({o with vw:={o.vw with te:=te+1}}:Oc).op 1 (A_ 5 [] 0) (Lib.repeatL [0] (Rv (te+1)).toNat)with rep:=Hg .done}
def S57:=Aq [(144,wQ NX),(211,Ac EZ),(85,Ac aDb),(84,Ac RP),(210,wQ Nt),(146,wQ vG)]
def W57:Wb->Oc->List D->Option WY:=RW S57 aOt [] 34
def aVr:(wQ W57).ok Qc 147:=De (Aj func147) (Aa Rx (Aa Ii (Aa aJj (Aa aJk (Aa L8 (Aa fV Ad))))))
def aCT(w:Wb)(o:Oc)(b:Oc)(ol:Option (List Nat))(f:o.nl=true->o.ops=[])(k:6<=w.v.te)(r:NX w o [.int .i64 19]=some (.tup [],b,ol)):W57 w o []=some (.tup [],b,ol.map (·++[7])):=by
 refine A5 f ⟨Qa rfl,λh=>Cw r h,λl h=>Cv r h,λi m fr t j x e n0=>?_⟩;have g:=Wt.start j x;unfold aOt;have y:=AJ j.1;simp only[↓C2,GD,GN,Gy,simprocAttr,y,eq_true k,AD S57 144];refine Ap g r (λM c1 p=>?_);simp only[↓C2,GD,simprocAttr];exact c1.endc j.2.2
def aOR(w:Wb)(o:Oc)(te:Int)(e:dU o)(k:¬6<=w.v.te)(n:o.vw.te=te)(f:0<=te∧te<=5):W57 w o []=some (.tup [],aFj o te,some ([11,28])):=by
 refine A5 (λ_=>e.ops) ⟨Qa rfl,λh=>Xd,λl h=>XA,λi m fr t j x ja n0=>?_⟩;have g:=Wt.start j x;unfold aOt;have xx:=AJ j.1;have b:IntKind.i64.wrap (te+1)=te+1:=GZ O O;have r:=CP 5 0 [] U;have d:=oB (te+1);have hl:0<=Rv (te+1)∧Rv (te+1)<=1000:=by unfold Rv;split<;>omega
 have a:=aUs (s:=[0]) (c:=Rv (te+1)) ⟨hl.1,O,Yy⟩;have qa:=DH w {o with vw:={o.vw with te:=te+1}} 1 (A_ 5 [] 0) (Lib.repeatL [0] (Rv (te+1)).toNat) (λ_=>e.ops) (by simp only[e.ops];simp);have q:=Fz w (({o with vw:={o.vw with te:=te+1}}:Oc).op 1 (A_ 5 [] 0) (Lib.repeatL [0] (Rv (te+1)).toNat)) (λh=>Xd);have hc:=g.cellp (p:=26) (ys:=[.int .i64 (te+1)]) (o':={o with vw:={o.vw with te:=te+1}}) (Qa rfl) rfl rfl rfl;simp only[GC,↓C2,Gy,simprocAttr,xx,eq_false k,b,Ae S57 211,r,Ae S57 85,d,Ae S57 84,a,AD S57 210,n];refine Co hc qa (λM u z c1 c2=>?_);simp only[↓C2,Hp,simprocAttr];refine As.intro ?_ ?_
 ·intro pp y l hl;simp only[Qn,Zl,or_false]at y;subst y;exact D7 hl
 simp only[↓C2,GD,GN,simprocAttr,AD S57 146];refine Ap c1 q (λM2 d1 d2=>?_);simp only[↓C2,GD,simprocAttr];exact d1.endl (l:=[11,28]) U
def aBm:=y0 Tryz.f212 [] []
def aQI{P:Program}{f:FuncId}{A B:List D->Option D}(y:(Ac A).ok P f)(q:(Ac B).ok P f):(Ac λds=>(A ds).or (B ds)).ok P f:=by
 refine⟨y.1,λds m m' fr _=>rfl,?_⟩;intro i w0 w m g fr ds vs r u hi t hl b z;have h:(Ac A).ex ds m fr=some (r,u)∨(Ac B).ex ds m fr=some (r,u):=by
  simp only[Ac]at z ⊢;split at z
  ·rename_i o;simp only[o,if_true];cases ha:A (ds.map D.un)with
   |none=>rw[ha]at z;exact .inr z
   |some x=>rw[ha]at z;exact .inl z
  ·cases z
 rcases h with h|h
 ·obtain⟨_,_,p⟩:=y;exact p hi t hl b h
 ·obtain⟨_,_,p⟩:=q;exact p hi t hl b h
def growZ:G8 where
 rd:=λ_ _=>[]
 ex:=λds _ _=>match ds with
  |[.slice true _ [],.int .i64 0]=>some (.slice true [] [],[])
  |_=>none
def vQ(w:World):Calls Qc 250 #[.slice none 0 0,.int .i64 0] w λe i=>e= .returned (.slice none 0 0)∧i=w:=by
 go_enter func250,ntmps250
 go_wp2
 all_goals go_ret
 all_goals exact⟨rfl,rfl⟩
def aVg:growZ.ok Qc 250:=by
 refine⟨⟨_,func250,Xa,Xa⟩,λds m m' fr _=>rfl,?_⟩;intro B w0 w m g fr ds vs r u hi t hl b z;simp only[growZ]at z;split at z
 ·simp only[Qs,QU]at z;obtain⟨rfl,rfl⟩:=z
  match vs,hl with
  |[v0,v1],_=>
   have v:=b 0 _ v0 rfl rfl;have j:=(b 1 _ v1 rfl rfl).int_inv;subst j;have a:v0= .slice none 0 0:=by
    rcases v.slice_inv with ⟨_,_,e⟩|⟨h,_⟩
    ·exact e
    ·cases h
   subst a;refine(vQ w).mono ?_;rintro ev c ⟨rfl,k⟩;subst k;have f:=Below.refl c.heap.size c;exact⟨_,g.over c c,rfl,hi.over f,GY.over hi.gz f,.nils _,λi s _=>s⟩
 ·cases z
def aL0:=Aq [(250,growZ)]
def aDA:=RF aL0 (F_ 9 68 3 32 250) [.t 2] 36
def aNR:Kq aDA 190:=An aAU (Aa aVg Ad)
def aAK{m:GB}{fr:Id}:growZ.ex [.slice true [] [],.int .i64 0] m fr=some (.slice true [] [],[]):=rfl
def aDz{t:Id}:aDA [.slice false [] [.slice false [] [],.slice false [] []]]=some (.slice true [] []):=by
 refine Al (Qa rfl) ?_;have a:aL0 250=some growZ:=rfl;have w0:IntKind.i64.wrap 0=0:=rfl;have v:IntKind.i64.wrap 1=1:=rfl;have p:IntKind.i64.wrap 2=2:=rfl;have y0:((0:Nat):Int)=0:=rfl;have y1:((1:Nat):Int)=1:=rfl;have y2:((2:Nat):Int)=2:=rfl;have z:(0:Int)+1=1:=rfl;have w:(1:Int)+1=2:=rfl;unfold F_;simp only[↓C2,GD,Gy,simprocAttr,Qg,Qb];refine Af (Ly.eq_1 _) ?_;simp only[↓C2,GA,Gy,simprocAttr,y0,w0,v,z,Q1,Qg,Qb];refine Af (Ly.eq_1 _) ?_;simp only[↓C2,GA,Gy,simprocAttr,y0,w0,p,w,ZC,Qg,Qb];refine Af (Ly.eq_1 _) ?_;simp only[↓C2,GA,Gy,simprocAttr,AE a,aAK,Qg,Qb];refine Af (Lx.eq_1 _ _ _) ?_;simp only[↓C2,GA,Gy,simprocAttr,v,z,Q1,Qg,Qb];refine Af (Lx.eq_1 _ _ _) ?_;simp only[↓C2,GA,Gy,simprocAttr,p,w,ZC,Qg,Qb];refine Af (Lx.eq_1 _ _ _) ?_;simp only[↓C2,GA,Gy,simprocAttr]
 all_goals exact YS
def N3(l:List Mt)(p:Bs):List Mt:=l.take (B8 l p).toNat++l.drop ((B8 l p).toNat+1)
def dO:List D->Option D:=λds=>(N0 ds).or (aDA ds)
def aNS:Kq dO 190:=aQI (aRD aIU) aNR
def aEq{a b:List Mt}(h:a.length+b.length<=1000):dO [.slice false [] [.slice false [] (AA a),.slice false [] (AA b)]]=some (.slice (decide (a++b=[])) [] (AA (a++b))):=by
 by_cases c:a++b=[]
 ·obtain⟨rfl,rfl⟩:=List.append_eq_nil_iff.1 c;unfold dO;rw[show AA []=[]from rfl,aDz (t:=[])];rfl
 ·grind [N0,AA,ES,AX,lO,dO]
def aGT:=Aq [(187,Ac aEt),(190,Ac dO)]
def uL:=RF aGT aBm [.cell (some 1) 4,.t 5] 25
def aS2:Kq uL 212:=An (Aj func212) (Aa yM (Aa aNS Ad))
def aHN(nl:Bool)(l:List Mt)(p:Bs)(hl:l.length<=1000)(s:B8 l p<0):uL [.agg [.slice nl [] (AA l)],.str p]=some (.tup [.agg [.slice nl [] (AA l)],.int .i64 14]):=by
 refine Al (Qa rfl) ?_;unfold aBm;have z:=OT (nl:=nl) (t:=[]) (l:=l) (p:=p) O;simp only[GC,↓C2,Gy,simprocAttr,Ae aGT 187,z,eq_true s]
 all_goals exact YR
def aC8(nl:Bool)(l:List Mt)(p:Bs)(hl:l.length<=1000)(g:nl=true->l=[])(s:¬B8 l p<0)(hi:(B8 l p).toNat<l.length):uL [.agg [.slice nl [] (AA l)],.str p]=some (.tup [.agg [.slice (decide (N3 l p=[])) [] (AA (N3 l p))],.int .i64 0]):=by
 refine Al (Qa rfl) ?_;unfold aBm;have z:=OT (nl:=nl) (t:=[]) (l:=l) (p:=p) O;have u:nl=false:=by
  grind
 subst u;unfold N3;generalize B8 l p=q at *;have v:(0:Int)<=q:=O
 have j:((q.toNat:Nat):Int)=q:=QW v;have k:IntKind.i64.wrap (q+1)=q+1:=GZ O O;have m:(q+1).toNat=q.toNat+1:=O
 have c:=aEq (a:=l.take q.toNat) (b:=l.drop (q.toNat+1)) YD;have r:aF (AA l) 3=3:=XF
 have o:q.toNat<=l.length:=O
 have f:q.toNat+1<=l.length:=O
 have i:(q<=(l.length:Int))=True:=eq_true O;have n:(q+1<=(l.length:Int))=True:=eq_true O;have w:(0:Int)<=q+1:=O
 have x:ZA q.toNat (AA l)=AA (l.take q.toNat):=(ZO ..).symm;have e:List.drop (q.toNat+1) (AA l)=AA (l.drop (q.toNat+1)):=(List.map_drop ..).symm;have m3:ZA (l.length-(q.toNat+1)) (AA (l.drop (q.toNat+1)))=AA (l.drop (q.toNat+1)):=QJ (by rw[AX,List.length_drop];omega);simp only[GC,↓C2,Gy,simprocAttr,Ae aGT 187,z,eq_false s,k,AX,v,m,r,w,i,n,Q2,x,e,m3,Qe,Ae aGT 190,c];refine As.intro (λp y=>by cases y) ?_;simp only[GC,↓C2,Gy,simprocAttr]
 all_goals exact YR
def HJ(a:Ak):(GV a)[0]?=some (.int .u8 a.op):=rfl
def SW(a:Ak):(GV a)[2]?=some (.str a.pa):=rfl
def nI(a:Ak):(GV a)[3]?=some (.str a.ot):=rfl
def aCB(a:Ak):(GV a)[10]?=some (.str a.key):=rfl
def Ht(v:Vw):(Hc v)[0]?=some (.bool v.se):=rfl
def RY(v:Vw):(Hc v)[2]?=some (.str v.key):=rfl
def jX(v:Vw):(Hc v)[3]?=some (.slice v.nlm [] (AA v.ms)):=rfl
def xS{m:GB}{v:Vw}{a:Ak}:Ag ((m.put [0] 0 (Hc v)).put [1] 0 (GV a)) [0] 0 5=some (Hc v):=by
 grind [Ay,Ax,Cu]
def VO{m:GB}{a:Ak}:Ag (m.put [1] 0 (GV a)) [1] 0 11=some (GV a):=Ax (AT a)
def aM3{m:GB}{x:List D}{n:Nat}:Ag (m.put [14] 0 x) [0] 0 n=Ag m [0] 0 n:=Ay V
open Classical in
def aIp{nl:Bool}{l:List Mt}{p:Bs}(hl:l.length<=1000000):aEn [.agg [.slice nl [] (AA l)],.str p]=some (.tup (if B8 l p<0 then [MJ ([],0,false),.int .i64 14]else [MJ (CE l (B8 l p).toNat),.int .i64 0])):=by
 have h:AA l=AA (Dp (AA l))∧(AA l).length<=1000000:=XJ
 show(if _ then _ else _)=_;rw[if_pos h,BH]
open Classical in
def aIo{v:Vw}{p:Bs}(hl:v.ms.length<=1000000):aEm [Hj v,.str p]=some (.bool (decide (Cq v.ms p≠-1))):=by
 have h:AA v.ms=AA (Dp (AA v.ms))∧(AA v.ms).length<=1000000:=XJ
 show(if _ then _ else _)=_;rw[if_pos h,BH]
def Lj(v:Vw)(a:Ak):Bool:=decide (a.op<=8)||(((decide (a.op=17)&&decide (0<=B8 v.ms a.pa))||decide (Cq v.ms a.pa≠-1))&&(decide (a.op≠18)||decide (Cq v.ms a.ot≠-1)))
def F70:List D->Option D:=FX Lk (λp=>P5 p.1) (λp=> .bool (Lj p.1 p.2))
def aPH{v:Vw}{a:Ak}(h:P5 v):F70 [Hj v,GW a]=some (.bool (Lj v a)):=BV (mk:=Lk) (a:=(v,a)) Pg h
def aUZ:Kq F70 209:=by
 obtain⟨S,w,hl⟩:=Bl (Aa aIX (Aa aRq (Aa aRp Ad)));have c:=hl 262 _ rfl;have i:=hl 265 _ rfl;have k:=hl 266 _ rfl;clear hl;refine CS w (Aj func209:Fn Qc 209 44 aTo [.t 4]) (λ_=>by simp[Lk]) (λp x=>?_);obtain⟨v,a⟩:=p;simp only at x;have y:=x.ml;have f:aEo [.int .u8 a.op]=some (.bool (decide (a.op<=8))):=rfl;have b:=aIp (nl:=v.nlm) (l:=v.ms) (p:=a.pa) O;have m:∀q,aEm [.agg (Hc v),.str q]=some (.bool (decide (Cq v.ms q≠-1))):=λq=>aIo O
 have d:=m a.pa;have j:=m a.ot;unfold aTo Lk Hj GW Lj;simp only;by_cases o:a.op<=8
 ·rw[decide_eq_true o]at f;simp only[↓C2,GA,simprocAttr,HJ,Ht,Br,Cu,AN,AT,Qj,ne_eq,Zq,Ah,Qf,QK,Qj,and_self,Qk,Ql,o,Ab c,f]
 ·rw[decide_eq_false o]at f;generalize decide (Cq v.ms a.pa≠-1)=r at d ⊢;generalize decide (Cq v.ms a.ot≠-1)=u at j ⊢;generalize B8 v.ms a.pa=fi at b ⊢;clear m;by_cases ta:a.op=17
  ·have h:(a.op=17)=True:=eq_true ta;have g:(a.op=18)=False:=eq_false O;clear ta;by_cases s:fi<0
   ·have n:¬0<=fi:=by omega
    rw[if_pos s]at b;cases r<;>simp only[↓C2,GO,simprocAttr,HJ,SW,nI,Ht,RY,jX,LV,aM3,Ax,xS,HU,HV,Br,Cu,AN,AT,ne_eq,Zq,ZD,Zr,ZN,Ah,QE,Qk,QA,Ql,o,n,h,g,Ab c,f,Ab i,b,Ab k,d,MJ]
   ·have n:0<=fi:=by omega
    rw[if_neg s]at b;generalize CE v.ms fi.toNat=mt at b;simp only[↓C2,GO,simprocAttr,HJ,SW,nI,Ht,RY,jX,LV,Ax,Br,Cu,AN,AT,ne_eq,Zq,Zr,Ah,QE,Qk,QA,Ql,o,n,h,g,Ab c,f,Ab i,b,MJ]
  ·have h:(a.op=17)=False:=eq_false ta;obtain⟨mt,e,z⟩:∃(mt:Mt)(e:Int),aEn [.agg [.slice v.nlm [] (AA v.ms)],.str a.pa]=some (.tup [MJ mt,.int .i64 e]):=by
    grind
   clear b;by_cases la:a.op=18
   ·have g:(a.op=18)=True:=eq_true la;clear la ta;cases r<;>cases u<;>simp only[↓C2,GO,simprocAttr,HJ,SW,nI,Ht,RY,jX,LV,aM3,Ax,xS,HU,HV,Br,Cu,AN,AT,ne_eq,Zx,ZD,Zr,ZN,Ah,QE,Qk,QA,and_false,Ql,o,h,g,Ab c,f,Ab i,z,Ab k,d,j,MJ]
   ·have g:(a.op=18)=False:=eq_false la;clear la ta;cases r<;>simp only[↓C2,GO,simprocAttr,HJ,SW,nI,Ht,RY,jX,LV,aM3,Ax,xS,HU,HV,Br,Cu,AN,AT,ne_eq,Zx,Zq,ZD,Zr,Ah,QE,Qk,QA,Ql,o,h,g,Ab c,f,Ab i,z,Ab k,d,MJ]
def EH(v:Vw)(a:Ak):Int:=if BO a≠0 then BO a else if a.op=1 then 0 else if a.op=2 then(if v.se=false then 9 else if a.key≠v.key then 11 else 0)else if v.se=true then 12 else if Hy v a=false then 13 else if Lj v a=false then 14 else 0
def jT:List D->Option D:=FX Lk (λp=>P5 p.1∧Hb p.2) (λp=> .int .i64 (EH p.1 p.2))
def IA{v:Vw}{a:Ak}(h:P5 v)(y:Hb a):jT [Hj v,GW a]=some (.int .i64 (EH v a)):=BV (mk:=Lk) (a:=(v,a)) Pg ⟨h,y⟩
def aU5:Kq jT 143:=by
 obtain⟨S,o,hl⟩:=Bl (Aa aU1 (Aa aU0 (Aa aUZ Ad)));have c:=hl 207 _ rfl;have h:=hl 208 _ rfl;have i:=hl 209 _ rfl;clear hl;refine CS o (Aj func143:Fn Qc 143 52 aTE [.t 4]) (λ_=>by simp[Lk]) (λp k=>?_);obtain⟨v,a⟩:=p;obtain⟨x,s⟩:=k;simp only at x s;have b:F68 [.agg (GV a)]=some (.int .i64 (BO a)):=aPJ s;have d:F69 [.agg (Hc v),.agg (GV a)]=some (.bool (Hy v a)):=aPI x;have g:F70 [.agg (Hc v),.agg (GV a)]=some (.bool (Lj v a)):=aPH x;unfold aTE Lk Hj GW EH;simp only;generalize BO a=e at b ⊢;generalize Hy v a=r at d ⊢;generalize Lj v a=q at g ⊢;by_cases n:e=0
 ·subst n;by_cases u:a.op=1
  ·have z:(a.op=1)=True:=eq_true u;clear u;simp only[↓C2,GA,simprocAttr,HJ,Ht,VO,Br,Cu,BK,BL,AN,AT,Qj,ne_eq,Ah,Qf,QK,Qj,and_self,Qk,Ql,z,Ab c,b]
  ·have z:(a.op=1)=False:=eq_false u;by_cases y:a.op=2
   ·have w:(a.op=2)=True:=eq_true y;clear u y;cases hse:v.se with
    |false=>
     simp only[↓C2,GA,simprocAttr,HJ,Ht,VO,Br,Cu,BK,BL,AN,AT,Qj,ne_eq,Ah,Qf,QK,Qj,and_self,Qk,QA,Ql,z,w,hse,Ab c,b]
    |true=>
     by_cases hk:a.key=v.key
     ·have f:(a.key=v.key)=True:=eq_true hk;have j:(a.key==v.key)=true:=by rw[hk];simp
      clear hk;simp only[↓C2,GA,simprocAttr,HJ,SW,aCB,Ht,RY,VO,Br,Cu,BK,BL,AN,AT,Qj,ne_eq,Ah,Qf,QK,Qj,and_self,Qk,QA,and_false,Ql,z,w,hse,f,Ab c,b]
     ·have f:(a.key=v.key)=False:=eq_false hk;have j:(a.key==v.key)=false:=by simpa using hk
      clear hk;simp only[↓C2,GA,simprocAttr,HJ,SW,aCB,Ht,RY,VO,Br,Cu,BK,BL,AN,AT,Qj,ne_eq,Ah,Qf,QK,Qj,and_self,Qk,QA,and_false,Ql,z,w,hse,f,Ab c,b]
   ·have w:(a.op=2)=False:=eq_false y;clear u y;cases hse:v.se with
    |true=>
     simp only[↓C2,GA,simprocAttr,HJ,Ht,VO,Br,Cu,BK,BL,AN,AT,Qj,ne_eq,Ah,Qf,QK,Qj,and_self,Qk,QA,Ql,z,w,hse,Ab c,b]
    |false=>
     cases r with
     |false=>
      simp only[↓C2,GA,simprocAttr,HJ,Ht,VO,xS,HU,HV,Br,Cu,BK,BL,AN,AT,Qj,ne_eq,Ah,Qf,QK,Qj,and_self,Qk,QA,Ql,z,w,hse,Ab c,b,Ab h,d]
     |true=>
      cases q<;>simp only[↓C2,GA,simprocAttr,HJ,Ht,VO,xS,HU,HV,Br,Cu,BK,BL,AN,AT,Qj,ne_eq,Ah,Qf,QK,Qj,and_self,Qk,QA,Ql,z,w,hse,Ab c,b,Ab h,d,Ab i,g]
 ·simp only[↓C2,GA,simprocAttr,VO,Br,BK,BL,AN,Qj,ne_eq,Qj,and_self,n,Ab c,b]
def aF8(k:Bs)(nl:Bool):Vw:=⟨false,1,k,true,[],nl,[Cx]⟩
def F23:List D->Option D
 |[.str k]=>some (Hj (aF8 k false))
 |_=>none
def aU6:Kq F23 78:=by
 obtain⟨S,w,hl⟩:=Bl (Aa aQN Ad);have a:=hl 80 _ rfl;clear hl;refine AL (S:=S) w (Aj func78:Fn Qc 78 6 aTF [.cell (some 5) 2]) (λds r h=>?_) (λds r h=>?_)
 ·unfold F23 at h;split at h
  ·simp
  ·cases h
 ·unfold F23 at h;split at h
  ·simp only[Qs]at h;subst h;have f:F48 []=some (.agg [.slice false [] (AI [Cx])]):=rfl;unfold aTF;simp only[↓C2,GO,simprocAttr,Cf,Fb,QC,QV,Q6,Ab a,f,Ah,Au,Av,Zm,Ze,Zf,QE,Q2,List.drop_succ_cons,Bm,AU]
   all_goals exact YS
  ·cases h
def aCF(s:Bool×List Mt)(m:Mt):Bool×List Mt:=match (aCG s.2 m).1 with
 |none=>s
 |some l=>(false,l)
open Classical in
def aPK{nl0 nl:Bool}{l:List Tk}{n p:Bs}{rs:List Rl}(hl:l.length<=90000)(s:∀k∈l,LY k.2.2.2)(g:nl=true->rs=[])(c:LY rs)(u:n.length<=1000000)(y:p.length<=1000000):
  F50 [.agg [.slice nl0 [] (AI l)],.agg [.str n,.str p,.slice nl [] (Ar rs)]]=some (.tup [VA nl0 l (Ic l (n,p,nl,rs)).1,.int .i64 (Ic l (n,p,nl,rs)).2]):=by
 have h:(E8 (AI l)∧(AI l).length<=90000∧∀k∈Dm (AI l),LY k.2.2.2)∧NG nl (Ar rs)∧LY (Bk (Ar rs))∧n.length<=1000000∧p.length<=1000000:=
  ⟨⟨EE O,by rw[BY];exact hl,by rw[BF];exact s⟩,LS c.1 g,by rw[A0];exact c,u,y⟩
 show(if _ then _ else _)=_;rw[if_pos h,BF,A0]
def z5:List D:=[.bool false,.int .i64 0,.str [],.slice true [] [],.slice true [] []]
open Classical in
def aIv{nl:Bool}{l:List Tk}(hl:l.length<=1000000):jU [.agg [.slice nl [] (AI l)]]=some (.slice (decide (l.length=0)) [] (l.map λk=> .str k.1)):=by
 have h:E8 (AI l):=EE hl;show(if _ then _ else _)=_;rw[if_pos h,BF]
theorem bl_irr:∀a:Bs,Op.bytesLess a a=false
 |[]=>rfl
 |x::r=>by simp[Op.bytesLess,bl_irr r]
def Nq:∀{a b:Bs},a≠b->Op.bytesLess a b=!Op.bytesLess b a
 |[],[],h=>absurd rfl h
 |[],y::s,_=>rfl
 |x::r,[],_=>rfl
 |x::r,y::s,h=>by
  simp only[Op.bytesLess];by_cases c:x=y
  ·simp_all [Nq]
  ·grind
def P_:∀{a b c:Bs},Op.bytesLess a b=true->Op.bytesLess b c=true->Op.bytesLess a c=true
 |a,b,[],h1,h2=>by simp[Op.bytesLess]at h2
 |a,[],z::t,h1,h2=>by cases a<;>simp[Op.bytesLess]at h1
 |[],y::s,z::t,h1,h2=>rfl
 |x::r,y::s,z::t,h1,h2=>by
  simp only[Op.bytesLess,Zt,QB,decide_eq_true_eq,beq_iff_eq]at h1 h2 ⊢;rcases h1 with h1|⟨rfl,h1⟩
  ·grind
  ·rcases h2 with h2|⟨rfl,h2⟩
   ·left;exact h2
   ·right;exact⟨rfl,P_ h1 h2⟩
def F8(l:List Mt):Prop:=∀i j,i<j->j<l.length->Op.bytesLess (l.getD i m0t).1 (l.getD j m0t).1=true
def OO{a b:Bs}:decide (CO a b<0)=Op.bytesLess a b:=by
 grind [CO]
def aAq{l:List Mt}{m:Mt}(g:∀i,i<l.length->(l.getD i m0t).1≠m.1):∀j,j<=l.length->kR fP m0t l m j=gB l m.1 j
 |0,_=>rfl
 |j+1,hj=>by
  have ih:=aAq g j O;have k:=Nq (g j O);have y:fP m (l.getD j m0t)=Op.bytesLess m.1 (l.getD j m0t).1:=OO;unfold kR gB;rw[y,show CE l j=l.getD j m0t from rfl,k];cases Op.bytesLess m.1 (l.getD j m0t).1
  ·simp
  ·simpa using ih
theorem SM{l:List Mt}{p:Bs}(h:¬0<=B8 l p):∀i,i<l.length->(l.getD i m0t).1≠p:=by
 have u:=Gl (l.map λm=>decide (m.1=p));have y:decide (0<=Bh (l.map λm=>decide (m.1=p)))=false:=decide_eq_false h;rw[y]at u;intro i hi e;have x:=Zj.1 u.symm (decide ((l.getD i m0t).1=p)) (Qp.2 ⟨l[i],QL hi,by simp[Qz,hi]⟩);exact x (decide_eq_true e)
theorem SX{l:List Mt}{m:Mt}(h:F8 l):HO l m=aCG l m:=by
 unfold HO aCG;split
 ·rfl
 split
 ·rfl
 rename_i s;split
 ·rfl
 split
 ·rfl
 have r:∀i,i+1<l.length->fP (l.getD (i+1) m0t) (l.getD i m0t)=false:=λi hi=>by
  have u:=h i (i+1) O hi;unfold fP;rw[OO];have c:(l.getD (i+1) m0t).1≠(l.getD i m0t).1:=λe=>by rw[e,bl_irr]at u;cases u
  rw[Nq c,u];rfl
 have hi:=SC fP m0t l m r l.length 1 (Qe _) O;rw[hi,aAq (SM s) l.length (Qe _)];split
 ·simp_all
 ·rfl
def aAr{l:List Mt}{p:Bs}:∀j,gB l p j=0∨Op.bytesLess (l.getD (gB l p j-1) m0t).1 p=true
 |0=> .inl rfl
 |j+1=>by
  unfold gB;split
  ·rename_i h;right;exact h
  ·exact aAr j
def lV{l:List Mt}{p:Bs}:∀j i,gB l p j<=i->i<j->Op.bytesLess (l.getD i m0t).1 p=false
 |0,i,_,h=>O
 |j+1,i,h1,h2=>by
  unfold gB at h1;split at h1
  ·omega
  ·rename_i h;by_cases e:i=j
   ·subst e;exact Bool.eq_false_iff.2 h
   ·exact lV j i h1 O
def Pm{α:Type}{l:List α}{m d:α}{k i:Nat}(s:k<=l.length):(l.take k++m::l.drop k).getD i d=if i<k then l.getD i d else if i=k then m else l.getD (i-1) d:=by
 grind
theorem wM{l:List Mt}{m:Mt}(h:F8 l)(g:∀i,i<l.length->(l.getD i m0t).1≠m.1):F8 (l.take (gB l m.1 l.length)++m::l.drop (gB l m.1 l.length)):=by
 have s:=aAp l m.1 l.length;have h1:=aAr (l:=l) (p:=m.1) l.length;have y:=lV (l:=l) (p:=m.1) l.length;generalize gB l m.1 l.length=k at s h1 y;have lo:∀i,i<k->Op.bytesLess (l.getD i m0t).1 m.1=true:=λi hi=>by
  rcases h1 with h1|h1
  ·omega
  ·by_cases e:i=k-1
   ·rw[e];exact h1
   ·exact P_ (h i (k-1) O O) h1
 have hi:∀i,k<=i->i<l.length->Op.bytesLess m.1 (l.getD i m0t).1=true:=λi x n=>by
  rw[Nq (λe=>g i n e.symm),y i x n];rfl
 intro i j z u;have r:(l.take k++m::l.drop k).length=l.length+1:=by
  grind
 rw[r]at u;rw[Pm s,Pm s];by_cases a1:i<k
 ·rw[if_pos a1];by_cases o:j<k
  ·rw[if_pos o];exact h i j z O
  ·rw[if_neg o];by_cases f:j=k
   ·simp_all
   ·rw[if_neg f];exact h i (j-1) O O
 ·rw[if_neg a1];have o:¬j<k:=by omega
  have f:¬j=k:=O
  rw[if_neg o,if_neg f];by_cases t:i=k
  ·grind
  ·rw[if_neg t];exact h (i-1) (j-1) O O
def jE{s:Bool×List Mt}{m:Mt}(h:F8 s.2):F8 (aCF s m).2:=by
 unfold aCF aCG;by_cases u:Eh m.1 m.2.1≠0
 ·rw[if_pos u];exact h
 ·rw[if_neg u];by_cases y:0<=B8 s.2 m.1
  ·rw[if_pos y];exact h
  ·grind [L2,wM,SM]
def F7(l:List Tk):Prop:=∀i j,i<j->j<l.length->Op.bytesLess (Bf l i).1 (Bf l j).1=true
def AtT(l:List Tk)(s:Bs)(r:Nat):Prop:=r<=l.length∧(∀i,i<r->Op.bytesLess (Bf l i).1 s=true)∧∀i,r<=i->i<l.length->Op.bytesLess (Bf l i).1 s=false
def AtT.uniq{l:List Tk}{s:Bs}{r q:Nat}(h:AtT l s r)(k:AtT l s q):r=q:=by
 rcases ZE r q with e|e|e
 ·have u:=h.2.2 r (Qe _) (by have:=k.1;omega);rw[k.2.1 r e]at u;cases u
 ·exact e
 ·have u:=k.2.2 q (Qe _) (by have:=h.1;omega);rw[h.2.1 q e]at u;cases u
theorem Sw{l:List Tk}(h:F7 l){s:Bs}{i j:Nat}(z:i<=j)(u:j<l.length)(hl:Op.bytesLess (Bf l j).1 s=true):Op.bytesLess (Bf l i).1 s=true:=by
 by_cases e:i=j
 ·rw[e];exact hl
 ·exact P_ (h i j O u) hl
def iU{l:List Tk}(h:F7 l){s:Bs}:∀(f lo hi:Nat),hi-lo<=f->lo<=hi->hi<=l.length->(∀i,i<lo->Op.bytesLess (Bf l i).1 s=true)->(∀i,hi<=i->i<l.length->Op.bytesLess (Bf l i).1 s=false)->AtT l s (bsR l s f lo hi)
 |0,lo,hi,hf,h1,h2,h3,h4=>by
  have:lo=hi:=O
  subst this;exact⟨h2,h3,h4⟩
 |f+1,lo,hi,hf,h1,h2,h3,h4=>by
  unfold bsR;split
  ·rename_i y;have u:(lo+hi) / 2<hi:=by omega
   have na:lo<=(lo+hi) / 2:=O
   split
   ·rename_i o;have j:Op.bytesLess (Bf l ((lo+hi) / 2)).1 s=true:=by rw[←OO];exact decide_eq_true o
    exact iU h f _ hi O O h2 (λi x=>Sw h (show i<=(lo+hi) / 2 by omega) O j) h4
   ·rename_i o;have j:Op.bytesLess (Bf l ((lo+hi) / 2)).1 s=false:=by rw[←OO];exact decide_eq_false o
    refine iU h f lo _ O na O h3 (λi c g=>?_);by_cases e:Op.bytesLess (Bf l i).1 s=true
    ·grind [Sw]
    ·simpa using e
  ·have:lo=hi:=by omega
   subst this;exact⟨h2,h3,h4⟩
def aCo{l:List Tk}(h:F7 l)(s:Bs):AtT l s (HG l s):=iU h l.length 0 l.length O O (Qe _) (λi hi=>absurd hi (ZK _)) (λi u y=>O)
theorem Nm{a b:Bs}:decide (CO a b=0)=decide (a=b):=by
 grind [CO,bl_irr]
def WH{l:List Tk}(h:F7 l){j:Nat}(z:j<l.length):HG l (Bf l j).1=j∧AV l (Bf l j).1=true:=by
 have e:HG l (Bf l j).1=j:=(aCo h _).uniq ⟨O,λi hi=>h i j hi z,λi u y=>by
  by_cases e:i=j
  ·rw[e];exact bl_irr _
  ·have p:=h j i O y;have c:(Bf l i).1≠(Bf l j).1:=λe=>by rw[e,bl_irr]at p;cases p
   rw[Nq c,p];rfl⟩
 refine⟨e,?_⟩;unfold AV;rw[e,Nm];simp[z]
def eJ(k:Tk):Bs×Bs×List Rl:=(k.1,k.2.1,k.2.2.2)
def La(L M:List Tk):Prop:=L.map eJ=M.map eJ
def La.len{L M:List Tk}(h:La L M):L.length=M.length:=by have:=congrArg ZJ h;simpa using this
def La.at{L M:List Tk}(h:La L M)(j:Nat):(Bf L j).1=(Bf M j).1∧(Bf L j).2.1=(Bf M j).2.1∧(Bf L j).2.2.2=(Bf M j).2.2.2:=by
 have u:(L.map eJ)[j]?=(M.map eJ)[j]?:=by rw[h]
 rw[Q7,Q7]at u;unfold Bf;simp only[Qz];cases hL:L[j]?<;>cases hM:M[j]?<;>rw[hL,hM]at u<;>simp[eJ]at u<;>simp[u]
def La.sort{L M:List Tk}(h:La L M)(r:F7 L):F7 M:=λi j z u=>by
 rw[←(h.at i).1,←(h.at j).1];exact r i j z (by rw[h.len];exact u)
def La.mid{L M:List Tk}(h:La L M){k p:Tk}(s:eJ k=eJ p)(j:Nat):La (L.take j++k::L.drop j) (M.take j++p::M.drop j):=by
 simp_all [La]
def pP{l:List Tk}{k:Tk}(h:F7 l)(s:AV l k.1=false):F7 (E0 l k):=by
 have m:=aCo h k.1;have c:∀i,i<l.length->(Bf l i).1≠k.1:=λi hi e=>by
  have:=(WH h hi).2;rw[e,s]at this;cases this
 unfold E0;generalize HG l k.1=q at m;obtain⟨v,lo,hi⟩:=m;have x:∀i,q<=i->i<l.length->Op.bytesLess k.1 (Bf l i).1=true:=λi u y=>by
  rw[Nq (λe=>c i y e.symm),hi i u y];rfl
 intro i j z p;have r:(l.take q++k::l.drop q).length=l.length+1:=by
  grind
 rw[r]at p;have g:∀i,Bf (l.take q++k::l.drop q) i=if i<q then Bf l i else if i=q then k else Bf l (i-1):=λi=>Pm v
 rw[g,g];by_cases a1:i<q
 ·rw[if_pos a1];by_cases o:j<q
  ·rw[if_pos o];exact h i j z O
  ·rw[if_neg o];by_cases f:j=q
   ·simp_all
   ·rw[if_neg f];exact h i (j-1) O O
 ·rw[if_neg a1];have o:¬j<q:=by omega
  have f:¬j=q:=O
  rw[if_neg o,if_neg f];by_cases t:i=q
  ·grind
  ·rw[if_neg t];exact h (i-1) (j-1) O O
def Rk(l:List Mt):Prop:=l.length<=1000∧∀m∈l,m.1.length<=1000
def aFi(s:Bs):Bs:=dS 2 s.length++s
def mtB(m:Mt):Bs:=aFi m.1++[UInt8.ofNat (m.2.1 % 256).toNat,if m.2.2 then 1 else 0]
def FH(l:List Mt):Bs:=l.flatMap mtB
def O7(s:Bs):(aFi s).length=2+s.length:=by simp[aFi,beB_len]
def lP(m:Mt):(mtB m).length=4+m.1.length:=by simp[mtB,O7];omega
def R3{l:List Mt}{j:Nat}(h:j<l.length):FH (l.take (j+1))=FH (l.take j)++mtB (CE l j):=by
 have e:CE l j=l[j]:=by simp[CE,Qd h]
 rw[e,FH,FH,←List.take_append_getElem h,List.flatMap_append];simp
def V5{l:List Mt}{j:Nat}(h:j<l.length):CE l j∈l:=by simp[CE,Qd h]
def kJ{l:List Mt}(h:Rk l):∀j,j<=l.length->(FH (l.take j)).length<=1004*j
 |0,_=>by simp[FH]
 |j+1,hj=>by
  have u:=kJ h j O;have y:=h.2 _ (V5 (show j<l.length by omega));rw[R3 O,Qh,lP];omega
def OK:=y1 f86 3 [] []
def aLy:=y0 f86 [] [(3,OK)]
def aKP:=y0 f142 [] []
def Ov:=y1 f201 2 [] []
def aJ9:=y0 f201 [] [(2,Ov)]
def RS:List D->Option (List D×List Nat)
 |[.int .i64 s,.int .u64 n]=>if 1<=s∧s<=8∧0<=n then some (AF (dS s.toNat n),[13*s.toNat])else none
 |_=>none
set_option maxHeartbeats 1000000 in
def aFO{S:Gz}{fr:Id}{m0:GB}{nl0:Bool}{t0:Id}{emp:Bool}{n:Int}{sz:Nat}{Q:Ex->St->Prop}(ka:sz<=8)(j:0<=n)(x:∀i o,fr<:+i->m0 i o=none)(ya:BT m0 5 nl0 t0 emp=true):
  ∀(k:Nat)(v:St)(nl:Bool)(t:Id)(xs:List D) g,k<=sz->xs.length+k<=200000000->(nl=true->xs=[])->v.c=5+13*(sz-k)->Gs 5 fr m0 nl0 t0 v.m v.c nl t->
   v.s 7= .int .i64 (8*(k:Int)-8)->v.s 0= .slice nl t xs->v.s 2= .int .u64 n->
   (∀q nl' t',q.s 0= .slice nl' t' (xs++AF (dS k n))->(k=0->nl'=nl∧t'=t∧q.m=v.m∧v.c<=q.c)->(0<k->nl'=false∧t'=[13*sz]++fr∧Gd 5 fr m0 nl0 t0 q.m q.c t')->Q (.exit 0) q)->A9 S fr Ov Q v g:=by
 intro k;induction k with
 |zero=>
  intro v nl t xs g _ _ _ _ hG h7 e y fa;refine Af Ov.eq_1 ?_;have hn:((0:Int)<=8*((0:Nat):Int)-8)=False:=eq_false V;simp only[↓C2,GD,GN,simprocAttr,h7,hn];exact fa _ nl t (by simp only[↓C2,reduceIte,Qw,e,dS,AF,Q6,Zu]) (λ_=>⟨rfl,rfl,rfl,Xb⟩) (λh=>absurd h O)
 |succ k ih=>
  intro v nl t xs g w r na hc hG h7 e y fa;refine Af Ov.eq_1 ?_;have hn:((0:Int)<=8*((k+1:Nat):Int)-8)=True:=eq_true O;have f:((0:Int)<=8*((k+1:Nat):Int)-8):=O
  have u:min (8*((k+1:Nat):Int)-8).toNat IntKind.u64.bits=8*k:=by
   have:IntKind.u64.bits=64:=rfl;omega
  have hw:IntKind.i64.wrap (8*((k+1:Nat):Int)-8-8)=8*(k:Int)-8:=YF
  simp only[↓C2,GA,simprocAttr,Qb,Qg,h7,e,y,hn,u,Te,and_false];refine As.intro ⟨O,rfl,Gs.grow (hG.put (l:=[]) (k:=v.c+2+5) O) x ya⟩ ?_;rw[B0 na];simp only[↓C2,GA,simprocAttr,h7,hw];have p:Gd 5 fr m0 nl0 t0 (GF.app (v.m.put ((v.c+2+5)::fr) 0 [D.tok 6]) (Bc 5 ((v.c+2+6)::fr) (.slice nl t xs))) (v.c+2+8+3) ((v.c+2+6)::fr):=
   Gs.app (l:=[]) (hG.put (l:=[]) (k:=v.c+2+5) O) O O
  refine ih _ false ((v.c+2+6)::fr) (xs++[.int .u8 ((((n.fdiv (2 ^ (8*k))) % 256).toNat:Nat):Int)]) _ O Xc U Xb p.gs rfl rfl y (λq nl' t' z e2 e3=>?_);refine fa q nl' t' ?_ (λh=>absurd h O) (λ_=>?_)
  ·rw[z,Q0];simp only[dS,AF,QV];rw[H_ O];rfl
  ·by_cases oa:k=0
   ·obtain⟨a,b,c,d⟩:=e2 oa;refine⟨a,?_,?_⟩
    ·grind
    ·rw[b,c];exact p.more d
   ·exact e3 O
def aIO:(gQ 5 RS).ok Qc 201:=by
 refine IM (S:=λ_=>none) A4 (Aj func201:Fn Qc 201 23 aJ9 [.t 6]) aOi (λds m fr d u h x=>?_);obtain⟨nl,t,xs,r,ys,l,rfl,hg,q,g,rfl,rfl⟩:=aOj h;unfold RS at g;split at g
 ·rename_i s n;split at g
  ·rename_i o;obtain⟨b,i,a⟩:=o;simp only[Qs,QU]at g;obtain⟨rfl,rfl⟩:=g;refine⟨U,?_⟩;clear h;have k:((s.toNat:Nat):Int)=s:=QW O;have y:IntKind.i64.wrap (s-1)=s-1:=IntWalk.i64_in _ ⟨O,O⟩;have z:IntKind.i64.wrap (8*(s-1))=8*(s.toNat:Int)-8:=by rw[IntWalk.i64_in _ ⟨O,O⟩];omega
   unfold aJ9;simp only[↓C2,GD,simprocAttr,y,z];refine aFO (sz:=s.toNat) O a x hg s.toNat _ nl t xs _ O O (λh=>?_) Xb Gs.start rfl rfl rfl (λv nl' c j _ f=>?_)
   ·grind [BT]
   ·obtain⟨rfl,rfl,p⟩:=f O;simp only[↓C2,GD,GN,simprocAttr,j];exact p.fin x hg
  ·cases g
 ·cases g
def aId:List D->Option (List D×List Nat)
 |[.str s]=>if s.length<=65535 then some (AF (dS 2 s.length++s),[17])else none
 |_=>none
set_option maxHeartbeats 1000000 in
def aRb(f:grownQ.ok Qc 206):(cQ 5 aFg aId).ok Qc 142:=by
 have g:Gz.ok Qc (Aq [(206,grownQ),(201,gQ 5 RS)]):=Aa f (Aa (aIO) Ad);have a:Aq [(206,grownQ),(201,gQ 5 RS)] 206=some grownQ:=rfl;have b:Aq [(206,grownQ),(201,gQ 5 RS)] 201=some (gQ 5 RS):=rfl;generalize Aq [(206,grownQ),(201,gQ 5 RS)]=S at g a b;refine IM (S:=S) g (Aj func142:Fn Qc 142 22 aKP [.t 4,.t 5]) (λds m m' fr _=>rfl) (λds m fr d u h x=>?_);obtain⟨nl,t,xs,w,ys,l,rfl,j,q,n,rfl,rfl⟩:=aOF h;unfold aId at n;split at n
 ·rename_i s;split at n
  ·rename_i v;simp only[Qs,QU]at n;obtain⟨rfl,rfl⟩:=n;refine⟨U,?_⟩;clear h;have g1:((65535:Int)<(s.length:Int))=False:=eq_false O;have y:IntKind.i64.wrap (2+(s.length:Int))=2+(s.length:Int):=IntWalk.i64_in _ ⟨O,O⟩;have z:IntKind.u64.wrap (s.length:Int)=(s.length:Int):=RZ O O;have e:RS [.int .i64 2,.int .u64 (s.length:Int)]=some (AF (dS 2 s.length),[26]):=by
    show(if(1:Int)<=2∧(2:Int)<=8∧0<=(s.length:Int)then some (AF (dS (2:Int).toNat (s.length:Int)),[13*(2:Int).toNat])else none)=_;rw[if_pos ⟨O,O,O⟩];rfl
   have c:∀m fr,grownQ.ex [.slice nl t xs,.int .i64 (2+(s.length:Int))] m fr=some (.slice false (0::fr) xs,[(0::fr,0,[.tok 6])]):=λm fr=>aAJ O j O
   unfold aKP;simp only[↓C2,GD,GN,simprocAttr,AE a,AE b,c,g1,y,z];have p:Gd 5 fr m true [] (m.put ([0]++9::fr) 0 [.tok 6]) 10 ([0]++9::fr):=
    ⟨⟨[0],9,rfl,O⟩,by rw[BG,if_pos ⟨rfl,rfl⟩],λi o hi=>TJ i o hi⟩
   refine aJu (.inr ⟨p.tok,U⟩) U q e ?_;have r:Gd 5 fr m true [] (GF.app (m.put (0::9::fr) 0 [.tok 6]) (Bc 5 ([26]++13::fr) (.slice false (0::9::fr) xs))) 14 ([26]++13::fr):=
    Gs.app (l:=[26]) (k:=13) p.gs O O
   simp only[↓C2,GD,simprocAttr,false_and,Ci];refine As.intro ⟨by simp only[Qh,Ci,beB_len];omega,?_,.inr ⟨r.tok,U⟩⟩ ?_
   ·cases s<;>rfl
   simp only[↓C2,GD,simprocAttr];refine⟨by rw[ET,Q0];rfl,?_⟩;exact(Gs.app (c':=18) (l:=[]) (k:=17) r.gs O O).finc x
  ·cases n
 ·cases n
set_option maxRecDepth 20000 in
def aEI(w:World)(m:Option Addr)(n c k:Nat)(cs:List Value)(hl:cs.length=n)(q:∀v∈cs,v.oneCell'=true)(s:n+k<=140737488355328)
  (b:0<n->∃ad,m=some ad∧∀(j:Nat) v,cs[j]?=some v->w.cell? (ad.add j)=some v):
  Calls Qc 206 #[.slice m n c,.int .i64 (k:Int)] w λe i=>e= .returned (.slice (some ⟨w.heap.size,0,none⟩) n (n+k))∧i=(w.alloc (.cells (madeCells #[.int .u8 0] (n+k)) 5)).setRow w.heap.size (cs++(madeCells #[.int .u8 0] (n+k)).toList.drop n).toArray:=by
 have p:IntKind.i64.wrap ((n:Int)+(k:Int))=(n:Int)+(k:Int):=IntWalk.i64_in _ ⟨O,O⟩;have h:∀u:World,(Instr.makeSlice 108 (.int .i64 (n:Int)) (.int .i64 ((n:Int)+(k:Int)))).run Qc u= .ok (.slice (some ⟨u.heap.size,0,none⟩) n (n+k)) (u.alloc (.cells (madeCells #[.int .u8 0] (n+k)) 5)):=λu=>by
  have z:((n:Int)+(k:Int)).toNat=n+k:=O
  have:=run_make (P:=Qc) u 108 5 Tryz.t5 (.int .u8 0) underlying108 Xa Xa .i64 .i64 (n:Int) ((n:Int)+(k:Int)) O O (by show((1:Nat):Int)*_<=_;omega) O;simpa[show Tryz.t5.size=1 from rfl,Value.cells,z]using this
 have o:(Builtin.copy_ #[108,108] 3 #[.slice (some ⟨w.heap.size,0,none⟩) n (n+k),.slice m n c]).run Qc (w.alloc (.cells (madeCells #[.int .u8 0] (n+k)) 5))= .ok (goInt n) ((w.alloc (.cells (madeCells #[.int .u8 0] (n+k)) 5)).setRow w.heap.size (cs++(madeCells #[.int .u8 0] (n+k)).toList.drop n).toArray):=by
  have a:(w.alloc (.cells (madeCells #[.int .u8 0] (n+k)) 5)).heap[w.heap.size]?=some (.cells (madeCells #[.int .u8 0] (n+k)) 5 (0,0)):=heap_alloc_new w _;rcases Nat.eq_zero_or_pos n with h0|h0
  ·have y:cs=[]:=Zc O;subst y;have:=run_copy_none (P:=Qc) (w.alloc (.cells (madeCells #[.int .u8 0] (n+k)) 5)) 108 108 3 5 (some ⟨w.heap.size,0,none⟩) m n (n+k) n c underlying108 Xa (by rw[h0];rfl);rw[this,h0];simp only[QC,Q2,Array.toArray_toList];rw[setRow_self _ _ _ 5 (0,0) (by rw[h0]at a;exact a)];rfl
  ·obtain⟨ad,rfl,r⟩:=b h0;have:=run_copy_row (P:=Qc) (w.alloc (.cells (madeCells #[.int .u8 0] (n+k)) 5)) 108 108 3 5 w.heap.size 0 n (n+k) ad n c (madeCells #[.int .u8 0] (n+k)) 5 cs underlying108 Xa a (by rw[hl];simp) (λj v x=>by rw[World.cell?_alloc_old _ _ _ (Nat.ne_of_lt (World.block_lt_of_cell? _ _ (r j v x)))];exact r j v x) (by simp[madeCells];omega) q;rw[this,hl];simp[]
 go_enter func206,ntmps206
 go_wp2
 go_ret
 exact YV
def UM(w:World)(a b:Array Value)(e:TypeId):(w.alloc (.cells a e)).setRow w.heap.size b=w.alloc (.cells b e):=by
 have h:∀(F:Obj->Obj),(w.heap.push (.cells a e)).modify w.heap.size F=w.heap.push (F (.cells a e)):=by
  grind
 unfold World.setRow World.alloc;simp only[h]
def aQX:grownQ.ok Qc 206:=by
 refine⟨⟨Tryz.f206,func206,rfl,Xa⟩,λds m m' fr _=>rfl,?_⟩;intro B w0 w m g fr ds vs r u hi f hl b y;simp only[grownQ]at y;split at y
 ·rename_i nl t xs k;split at y
  ·rename_i hc;obtain⟨oa,ja,hk⟩:=hc;simp only[Qs,QU]at y;obtain⟨rfl,rfl⟩:=y
   match vs,hl with
   |[v0,v1],_=>
    have ua:=b 0 _ v0 rfl rfl;have qa:=(b 1 _ v1 rfl rfl).int_inv;subst qa;have ga:∀d∈xs,d.cells.length=1∧d.calm=true:=by
     intro d p;have:=Q9.1 ja d p;unfold Gj at this;split at this
     ·exact YV
     ·cases this
    obtain⟨sp,c,cs,e0,sa,ra,za⟩:∃(sp:Option Addr)(c:Nat)(cs:List Value),v0= .slice sp xs.length c∧cs.length=xs.length∧AW w g (flat xs) cs∧
      (0<xs.length->∃ad,sp=some ad∧∀(j:Nat) v,cs[j]?=some v->w.cell? (ad.add j)=some v):=by
     cases nl with
     |true=>
      rcases ua.slice_inv with ⟨_,rfl,e⟩|⟨h,_⟩
      ·exact⟨none,0,[],e,rfl,AW.nil w g,λh=>Xe⟩
      ·cases h
     |false=>
      obtain⟨ad,n,c,sz,ws,ev,a,wa,ka,ta,o,sa,_⟩:=ua.slice_list;subst a;refine⟨some ad,c,ws,ev,?_,o,λ_=>⟨ad,rfl,sa⟩⟩;rw[ta];cases xs with
      |nil=>simp
      |cons x r=>
       have q:=ka x (Qo ..);rw[(ga x (Qo ..)).1]at q;rw[←q,Nat.mul_one]
    subst e0;have na:((k.toNat:Nat):Int)=k:=QW oa;have hw:=aEI w sp xs.length c k.toNat cs sa ra.2.1 O za;rw[na]at hw;refine hw.mono ?_;rintro e w' ⟨rfl,rfl⟩;rw[UM];have ka:(cs++(madeCells #[Value.int .u8 0] (xs.length+k.toNat)).toList.drop xs.length).toArray.size=(xs.length+k.toNat)*1:=by simp[madeCells,sa]
    have ab:∃ti z,Tryz.prog.info? 5=some ti∧ti.size=1∧ti.zero=some z∧z.cells.size=1:=⟨Tryz.t5,.int .u8 0,Xa,Xa,Xa,Xa⟩;have va:=f (0::fr) (ZG 0 fr);have s:=hi.newTok va (e:=5) (n:=xs.length) (c:=xs.length+k.toNat) (sz:=1) (cur:=(cs++(madeCells #[Value.int .u8 0] (xs.length+k.toNat)).toList.drop xs.length).toArray) V ab O Xq ka;have ma:=GY.newTok (w:=w) (t:=0::fr) (n:=xs.length) (c:=xs.length+k.toNat) (sz:=1) (Obj.cells (cs++(madeCells #[Value.int .u8 0] (xs.length+k.toNat)).toList.drop xs.length).toArray 5) hi.gz va.2.2 rfl;refine⟨_,_,rfl,s,ma,?_,λi hf a=>CN hf (λh=>a ((ZG 0 fr).trans h)) _ _ _ _ _⟩;refine aH (sz:=1) (cur:=(cs++(madeCells #[Value.int .u8 0] (xs.length+k.toNat)).toList.drop xs.length).toArray) (T:=5) (fz:=(0,0)) (heap_alloc_new w _) rfl O (λd p=>(ga d p).1) (ra.ext ma) (λj v hv=>?_) Xn (λ_=>Xn) (λd p=>(ga d p).2);rw[List.getElem?_toArray,QP (Qy.1 hv).1];exact hv
  ·cases y
 ·cases y
def aIG{d:D}{n:Bool}{t:Id}{xs ys:List D}(h:d= .slice n t xs)(e:xs=ys):d= .slice n t ys:=e▸h
def aFZ{S:Gz}(a:S 142=some (cQ 5 aFg aId)){l:List Mt}{nl:Bool}{Q:Ex->St->Prop}(hl:Rk l)
  (i:∀v n t,v.s 3= .slice n t (AF (FH l))->Q (.exit 0) v):
  ∀(f j:Nat)(n:Bool)(t:Id)(v:St) g,l.length=j+f->v.s 3= .slice n t (AF (FH (l.take j)))->v.s 8= .slice nl [] (AA l)->v.s 9= .int .i64 (l.length:Int)->v.s 10= .int .i64 (j:Int)->A9 S [] OK Q v g:=by
 intro f;induction f with
 |zero=>
  intro j n t v g e x h8 r q;refine Af OK.eq_1 ?_;have:¬((j:Int)<l.length):=O
  simp only[↓C2,GD,GN,reduceIte,QF,r,q,this];rw[QJ O]at x;exact i _ n t x
 |succ f ih=>
  intro j n t v g e x h8 r q;refine Af OK.eq_1 ?_;have u:j<l.length:=O
  have y:((j:Int)<l.length):=O
  have oa:=nJ (j:=j);have c:=hl.1;have w:=kJ hl j O;have hp:=hl.2 _ (V5 u);have hw:=wJ (j:=j) O;have o:(AA l)[j]?=some (.agg [.str (CE l j).1,.int .i64 (CE l j).2.1,.bool (CE l j).2.2]):=Ol u;have z:=R3 u;generalize CE l j=m at o hp z;obtain⟨p,k,b⟩:=m;simp only at hp o;have hF:aId [.str p]=some (AF (aFi p),[17]):=if_pos O;obtain⟨ma,ia,ea⟩:=v;simp only at x h8 r q;cases b with
  |true=>
   simp only[↓C2,GO,simprocAttr,h8,r,q,x,y,oa,Qm,o,AE a,Ah,Au,Av,Zm,Ze,Zf,QE];refine aJv (ST _) (by rw[Ci];omega) hF ?_;simp only[↓C2,GO,simprocAttr,aFg,x,and_false,Te,Ah,and_false];refine As.intro ⟨YB,rfl,.inr ⟨by simp[BG],U⟩⟩ ?_;simp only[↓C2,GA,simprocAttr,q,hw];refine ih (j+1) false _ _ _ O (aIG rfl ?_) h8 r rfl;rw[z];simp only[mtB,ET,Q0];simp only[AF,QV,Q6];rw[H_ O];rfl
  |false=>
   simp only[↓C2,GO,simprocAttr,h8,r,q,x,y,oa,Qm,o,AE a,Ah,Au,Av,Zm,Ze,Zf,QE];refine aJv (ST _) (by rw[Ci];omega) hF ?_;simp only[↓C2,GO,simprocAttr,aFg,x,and_false,Te,Ah,and_false];refine As.intro ⟨YB,rfl,.inr ⟨by simp[BG],U⟩⟩ ?_;simp only[↓C2,GA,simprocAttr,q,hw];refine ih (j+1) false _ _ _ O (aIG rfl ?_) h8 r rfl;rw[z];simp only[mtB,ET,Q0];simp only[AF,QV,Q6];rw[H_ O];rfl
def Ph(p:Bool×List Mt):List D:=[.agg [.slice p.1 [] (AA p.2)]]
def qL(x y:Bool×List Mt)(e:Ph x=Ph y):x=y:=by
 grind [Ph,V3]
def vB:List D->Option D:=FX Ph (λp=>Rk p.2) (λp=> .str (FH p.2))
def U5{n:Bool}{l:List Mt}(h:Rk l):vB [.agg [.slice n [] (AA l)]]=some (.str (FH l)):=BV (mk:=Ph) (a:=(n,l)) qL h
def yL:Kq vB 86:=by
 obtain⟨S,w,hl⟩:=Bl (Aa (aRb aQX) Ad);have a:=hl 142 _ rfl;clear hl;refine CS w (Aj func86:Fn Qc 86 35 aLy [.t 2]) (λ_=>by simp[Ph]) (λp g=>?_);obtain⟨n,l⟩:=p;have hl:Rk l:=g;unfold aLy Ph;simp only[↓C2,GD,Hp,simprocAttr,AX,Ah,Qf,QK,Qb,Qg,Qj,List.getElem?_cons_zero,and_self];refine aFZ a hl (λv f z e=>?_) l.length 0 true [] _ _ O rfl rfl rfl rfl;simp only[↓C2,GD,Hp,simprocAttr,e,aGG,CZ,and_self]
def Ru(o:Oc)(nl:Bool)(l:List Mt):Oc:={o with vw:={o.vw with nlm:=nl,ms:=l}}
def V7(o:Oc)(nl:Bool)(l:List Mt):Oc:={(Ru o nl l).op 1 (A_ 4 [] 0) (FH l)with rep:=Hg .done}
def umO(o:Oc)(nl:Bool)(l:List Mt)(p:Bs):Oc:={((((Ru o nl l).op 1 (A_ 4 [] 0) (FH l)).op 3 ([109,47]++p++[47]) []).op 3 ([100,47]++p++[47]) [])with rep:=Hg .done}
def S58:=Aq [(129,Ac F45),(144,wQ NX),(211,Ac EZ),(86,Ac vB),(210,wQ Nt),(146,wQ vG)]
def W58:Wb->Oc->List D->Option WY:=RW S58 aOs [] 48
def aVq:(wQ W58).ok Qc 148:=De (Aj func148) (Aa aU3 (Aa Rx (Aa Ii (Aa yL (Aa L8 (Aa fV Ad))))))
def aCS(w:Wb)(o:Oc)(b:Oc)(ol:Option (List Nat))(f:o.nl=true->o.ops=[])(q:Bool)(s:List Mt)(e:Int)(y:F45 [.agg [.slice w.v.nlm [] (AA w.v.ms)],.agg [.str w.a.pa,.int .i64 w.a.n,.bool w.a.fl]]=some (.tup [.agg [.slice q [] (AA s)],.int .i64 e]))(z:e≠0)(r:NX w o [.int .i64 e]=some (.tup [],b,ol)):W58 w o []=some (.tup [],b,ol.map (·++[33])):=by
 refine A5 f ⟨Qa rfl,λh=>Cw r h,λl h=>Cv r h,λi m fr t j x u n0=>?_⟩;have g:=Wt.start j x;unfold aOs;have c:=AJ j.1;simp only[GC,↓C2,Gy,simprocAttr,c,Ae S58 129,y];refine Va ?_;simp only[↓C2,GA,Gy,simprocAttr,eq_false z,AD S58 144];refine Ap g.put.put r (λM c1 p=>?_);simp only[↓C2,GD,simprocAttr];exact c1.endc j.2.2
def aCR(w:Wb)(o:Oc)(q:Bool)(l2:List Mt)(y:F45 [.agg [.slice w.v.nlm [] (AA w.v.ms)],.agg [.str w.a.pa,.int .i64 w.a.n,.bool w.a.fl]]=some (.tup [.agg [.slice q [] (AA l2)],.int .i64 0]))(f:dU o)(s:Rk l2):W58 w o []=some (.tup [],V7 o q l2,some ([11,42])):=by
 refine A5 (λ_=>f.ops) ⟨Qa rfl,λh=>Xd,λl h=>XA,λi m fr t j x e n0=>?_⟩;have g:=Wt.start j x;unfold aOs;have c:=AJ j.1;have hk:=CP 4 0 [] U;have r:=hk;have b:=U5 (n:=q) s;have qa:=DH w (Ru o q l2) 1 (A_ 4 [] 0) (FH l2) (λ_=>f.ops) (by show o.ops.length<=_;rw[f.ops];simp);have z:=Fz w ((Ru o q l2).op 1 (A_ 4 [] 0) (FH l2)) (λh=>Xd);simp only[GC,↓C2,Gy,simprocAttr,c,Ae S58 129,y];refine Va ?_;simp only[GC,↓C2,Gy,simprocAttr,c,n0,Ae S58 211,r,Ae S58 86,b,AD S58 210];refine Co (g.put.put.cellp (p:=28) (ys:=[.slice q [] (AA l2)]) (o':=Ru o q l2) (Qa rfl) rfl rfl rfl) qa (λM u k c1 c2=>?_);simp only[↓C2,GD,Hp,simprocAttr];refine Va ?_;simp only[↓C2,GD,GN,simprocAttr,AD S58 146];refine Ap c1 z (λM2 d1 d2=>?_);simp only[↓C2,GD,simprocAttr];exact d1.endl (l:=[11,42]) U
def S59:=Aq [(212,Ac uL),(144,wQ NX),(211,Ac EZ),(86,Ac vB),(210,wQ Nt),(213,Ac uK),(146,wQ vG)]
def W59:Wb->Oc->List D->Option WY:=RW S59 aOr [] 53
def aVp:(wQ W59).ok Qc 149:=De (Aj func149) (Aa aS2 (Aa Rx (Aa Ii (Aa yL (Aa L8 (Aa aJi (Aa fV Ad)))))))
def aCQ(w:Wb)(o:Oc)(b:Oc)(ol:Option (List Nat))(f:o.nl=true->o.ops=[])(q:Bool)(s:List Mt)(e:Int)(c:uL [.agg [.slice w.v.nlm [] (AA w.v.ms)],.str w.a.pa]=some (.tup [.agg [.slice q [] (AA s)],.int .i64 e]))(z:e≠0)(r:NX w o [.int .i64 e]=some (.tup [],b,ol)):W59 w o []=some (.tup [],b,ol.map (·++[21])):=by
 refine A5 f ⟨Qa rfl,λh=>Cw r h,λl h=>Cv r h,λi m fr t j x u n0=>?_⟩;have g:=Wt.start j x;unfold aOr;have y:=AJ j.1;simp only[GC,↓C2,Gy,simprocAttr,y,Ae S59 212,c];refine Va ?_;simp only[↓C2,GA,Gy,simprocAttr,eq_false z,AD S59 144];refine Ap g.put.put r (λM c1 p=>?_);simp only[↓C2,GD,simprocAttr];exact c1.endc j.2.2
def aOQ(w:Wb)(o:Oc)(k:Bool)(l2:List Mt)(c:uL [.agg [.slice w.v.nlm [] (AA w.v.ms)],.str w.a.pa]=some (.tup [.agg [.slice k [] (AA l2)],.int .i64 0]))(h0:dU o)(s:Rk l2)(g:w.a.pa.length<=1000000):W59 w o []=some (.tup [],umO o k l2 w.a.pa,some ([11,54])):=by
 refine A5 (λ_=>h0.ops) ⟨Qa rfl,λh=>Xd,λl h=>XA,λi m fr t j x ja n0=>?_⟩;have hW:=Wt.start j x;unfold aOr;have xx:=AJ j.1;have hk:=CP 4 0 [] U;have r:=hk;have b:=U5 (n:=k) s;have qa:=DH w (Ru o k l2) 1 (A_ 4 [] 0) (FH l2) (λ_=>h0.ops) (by show o.ops.length<=_;rw[h0.ops];simp);have y:=UY w.a.pa g;generalize na:([109,47]++w.a.pa++[47]:Bs)=q1 at y;generalize e:([100,47]++w.a.pa++[47]:Bs)=q2 at y;have f:=DH w ((Ru o k l2).op 1 (A_ 4 [] 0) (FH l2)) 3 q1 [] (λh=>Xd) (by simp[Oc.op,Ru,h0.ops]);have q:=DH w (((Ru o k l2).op 1 (A_ 4 [] 0) (FH l2)).op 3 q1 []) 3 q2 [] (λh=>Xd) (by simp[Oc.op,Ru,h0.ops]);have la:=Fz w ((((Ru o k l2).op 1 (A_ 4 [] 0) (FH l2)).op 3 q1 []).op 3 q2 []) (λh=>Xd);have y0:((0:Nat):Int)=0:=rfl;have y1:((1:Nat):Int)=1:=rfl;have y2:((2:Nat):Int)=2:=rfl;have w1:IntKind.i64.wrap 1=1:=rfl;have w2:IntKind.i64.wrap 2=2:=rfl;have z1:(0:Int)+1=1:=rfl;have z2:(1:Int)+1=2:=rfl;unfold umO;rw[na,e];simp only[GC,↓C2,Gy,simprocAttr,xx,Ae S59 212,c];refine Va ?_;simp only[GC,↓C2,Gy,simprocAttr,xx,n0,Ae S59 211,r,Ae S59 86,b,AD S59 210];refine Co (hW.put.put.cellp (p:=28) (ys:=[.slice k [] (AA l2)]) (o':=Ru o k l2) (Qa rfl) rfl rfl rfl) qa (λM u hu c1 c2=>?_);have xx:=AJ c1.at_.1;simp only[↓C2,GD,Hp,simprocAttr];refine Va ?_;simp only[↓C2,GA,Gy,simprocAttr,xx.2.2.2.2.2.2.2.1,Ae S59 213,y,Qb,Qg];refine Af Uo.eq_1 ?_;simp only[↓C2,GA,Gy,simprocAttr,Q1,Qb,Qg,AD S59 210];refine Ap c1 f (λM2 d1 d2=>?_);simp only[↓C2,GD,simprocAttr,w1,z1];refine Af Uo.eq_1 ?_;simp only[↓C2,GA,Gy,simprocAttr,ZC,Qb,Qg,AD S59 210];refine Ap d1 q (λM3 z e2=>?_);simp only[↓C2,GD,simprocAttr,w2,z2];refine Af Uo.eq_1 ?_;simp only[↓C2,GA,Gy,simprocAttr,AD S59 146];refine Ap z la (λM4 f1 f2=>?_);simp only[↓C2,GD,simprocAttr];exact f1.endl (l:=[11,54]) U
def UC:=y1 f137 5 [] []
def UB:=y1 f137 13 [] []
def aKN:=y0 f137 [] [(5,UC),(13,UB)]
def aLv:=y0 f82 [] []
def xC(s:Bs):Bs:=dS 2 (s.length:Int)++s
def B5(l:List Bs):Bs:=l.flatMap xC
def VQ(l:List Bs)(s:Bs):B5 (l++[s])=B5 l++dS 2 (s.length:Int)++s:=by simp[B5,xC]
def Pa:∀{l:List Bs},(∀s∈l,s.length<=60000)->(B5 l).length<=60002*l.length
 |[],_=>by simp[B5]
 |x::r,h=>by
  have ih:=Pa (l:=r) (λs i=>h s (Qt _ i));have q:=h x Qo;have e:B5 (x::r)=xC x++B5 r:=by simp[B5]
  rw[e];simp only[Qh,xC,beB_len,Qb];omega
def aUa:=Aq [(201,gQ 5 RS)]
def aHv:=RF aUa aKN [.t 2,.t 3] 46
def aSN:Kq aHv 137:=An (Aj func137) (Aa aIO Ad)
def aHu(nl:Bool)(l:List Bs)(hl:l.length<=1024)(hs:∀s∈l,s.length<=60000):aHv [.slice nl [] (strsD l)]=some (.tup [.slice false [] (AF (B5 l)),.int .i64 0]):=by
 refine Al (Qa rfl) ?_;unfold aKN;have r:((1024:Int)<(l.length:Int))=False:=eq_false O;simp only[↓C2,GD,GN,Gy,reduceIte,Qw,QF,reduceCtorEq,AM,r];refine BI (n:=l.length) (I:=λj v=>v.s 13= .slice nl [] (strsD l)∧v.s 14= .int .i64 l.length∧v.s 15= .int .i64 (j:Int)∧v.s 0= .slice nl [] (strsD l)∧∃a:Int,v.s 4= .int .i64 a∧0<=a∧a<=60002*(j:Int)) (λj u ih v g hI=>?_) (λv g hI=>?_) 0 (Qf _) _ _ ⟨rfl,rfl,rfl,rfl,0,rfl,O,O⟩
 ·obtain⟨ma,ia,ea⟩:=v;obtain⟨ra,wa,fa,h0,a,h4,f,q⟩:=hI;simp only at ra wa fa h0 h4;refine Af UC.eq_1 ?_;have w:((j:Int)<(l.length:Int))=True:=eq_true O;have oa:=nJ (j:=j);have hw:IntKind.i64.wrap ((j:Int)+1)=((j+1:Nat):Int):=by rw[GZ O O];omega
  have ka:=C_ (l:=l) (j:=j) u;have hx:=hs l[j] (QL u);generalize l[j]=x at ka hx;have hb:((65535:Int)<(x.length:Int))=False:=eq_false O;have w1:IntKind.i64.wrap (2+(x.length:Int))=2+(x.length:Int):=GZ O O;have w2:IntKind.i64.wrap (a+(2+(x.length:Int)))=a+(2+(x.length:Int)):=GZ O O;simp only[↓C2,GA,Gy,reduceIte,Qw,QF,ra,wa,fa,h4,w,oa,Qm,ka,hb,w1,w2,hw];exact ih _ _ ⟨ra,wa,rfl,h0,_,rfl,O,O⟩
 ·obtain⟨ma,ia,ea⟩:=v;obtain⟨ra,wa,fa,h0,a,h4,f,q⟩:=hI;simp only at ra wa fa h0 h4;refine Af UC.eq_1 ?_;have p:¬(a<0):=by omega
  simp only[↓C2,GA,Gy,reduceIte,Qw,QF,Int.reduceLE,wa,fa,h4,Zb,f];refine As.intro (by have e2:((1:Nat):Int)+1=2:=rfl;rw[e2];omega) ?_;simp only[↓C2,GD,Gy,reduceIte,Qw,QF,reduceCtorEq,h0,AM,Q1,List.replicate_zero];refine BI (n:=l.length) (I:=λj v=>v.s 30= .slice nl [] (strsD l)∧v.s 31= .int .i64 l.length∧v.s 32= .int .i64 (j:Int)∧∃t,v.s 7= .slice false t (AF (B5 (l.take j)))∧Gd 5 [] (λ_ _=>none) true [] v.m v.c t) (λj u ih v g hI=>?_) (λv g hI=>?_) 0 (Qf _) _ _ ⟨rfl,rfl,rfl,_,rfl,⟨[],_,rfl,Xb⟩,XT,λi o hi=>absurd ⟨i,U⟩ hi⟩
  ·obtain⟨ma,ia,ea⟩:=v;obtain⟨e,d,b,t,h7,hG⟩:=hI;simp only at e d b h7 hG;refine Af UB.eq_1 ?_;have w:((j:Int)<(l.length:Int))=True:=eq_true O;have oa:=nJ (j:=j);have hw:IntKind.i64.wrap ((j:Int)+1)=((j+1:Nat):Int):=by rw[GZ O O];omega
   have ka:=C_ (l:=l) (j:=j) u;have hx:=hs l[j] (QL u);have z:l.take (j+1)=l.take j++[l[j]]:=QR u;have ta:(B5 (l.take j)).length<=60002*j:=by
    have:=Pa (l:=l.take j) (λs hh=>hs s (Q3 hh));rw[Za]at this;omega
   generalize l[j]=x at ka hx z;have wu:IntKind.u64.wrap (x.length:Int)=(x.length:Int):=by
    unfold IntKind.wrap;simp only;rw[show IntKind.u64.bits=64 from rfl,show IntKind.u64.signed=false from rfl,Zx,if_neg Bool.false_ne_true];omega
   have hF:RS [.int .i64 2,.int .u64 (x.length:Int)]=some (AF (dS 2 (x.length:Int)),[26]):=by
    show(if 1<=(2:Int)∧(2:Int)<=8∧0<=(x.length:Int)then some (AF (dS (2:Int).toNat (x.length:Int)),[13*(2:Int).toNat])else none)=_;rw[if_pos ⟨O,O,O⟩];rfl
   have y:=hG.gs;have ya:BT (λ_ _=>none) 5 true [] true=true:=rfl;simp only[↓C2,GA,Gy,reduceIte,Qw,QF,e,d,b,h7,w,oa,Qm,ka,wu,AD aUa 201];refine aJu (y.grow (λ_ _ _=>rfl) ya) (λh=>Xd) (by simp[AF];omega) hF ?_;have hA:=y.app (k:=ea+1+3+4) (c':=ea+1+3+5) (l:=[26]) (xs:=AF (B5 (l.take j))) O O;simp only[↓C2,GD,Hp,Gy,reduceIte,Qw,QF];refine As.intro ⟨by simp only[Qh,AF,Qv,beB_len];omega,by cases x<;>rfl,hA.gs.grow (λ_ _ _=>rfl) ya⟩ ?_;have hB:=hA.gs.app (k:=ea+1+3+6+2) (c':=ea+1+3+6+3) (l:=[]) (xs:=AF (B5 (l.take j))++AF (dS 2 (x.length:Int))) O O;simp only[↓C2,GD,Gy,reduceIte,Qw,QF,b,hw];refine ih _ _ ⟨e,d,rfl,_,?_,hB.more Xb⟩;rw[z,VQ];show D.slice _ _ _=_;simp[AF]
  ·obtain⟨ma,ia,ea⟩:=v;obtain⟨e,d,b,t,h7,hG⟩:=hI;simp only at e d b h7 hG;refine Af UB.eq_1 ?_;rw[Zn]at h7;simp only[↓C2,GA,Gy,reduceIte,Qw,QF,d,b,h7,Zb]
   all_goals exact YR
def aGS:=Aq [(135,Ac vC),(136,Ac aIc),(137,Ac aHv)]
def uJ:=RF aGS aLv [.t 2,.t 3] 31
def aJh:Kq uJ 82:=An (Aj func82) (Aa aIZ (Aa aIT (Aa aSN Ad)))
def oA(n p:Bs)(a:Bool)(rs:List Rl)(e:Bs)(m:Int)(r:vC [.agg [.str n,.str p,.slice a [] (Ar rs)]]=some (.int .i64 0))(j:aIc [.slice a [] (Ar rs)]=some (.tup [.str e,.int .i64 m]))(g:p.length<=60000)(c:e.length<=60000):uJ [.agg [.str n,.str p,.slice a [] (Ar rs)]]=some (.tup [.str (B5 [p,e]),.int .i64 0]):=by
 refine Al (Qa rfl) ?_;unfold aLv;have b:aHv [.slice false [] [.str p,.str e]]=some (.tup [.slice false [] (AF (B5 [p,e])),.int .i64 0]):=aHu false [p,e] U (by
  intro s i;simp only[Qn,Zl,or_false]at i;rcases i with rfl|rfl
  ·exact g
  ·exact c)
 simp only[GC,↓C2,Gy,reduceIte,Qw,QF,Nat.reduceLT,Ae aGS 135,r,Ae aGS 136,j,Ae aGS 137,b,CZ]
 all_goals exact YR
def Sz(o:Oc)(nl:Bool)(l:List Tk):Oc:={o with vw:={o.vw with nlt:=nl,ks:=l}}
def mkO(o:Oc)(nl:Bool)(l:List Tk)(n b:Bs):Oc:={(Sz o nl l).op 1 (A_ 3 n 0) b with rep:=Hg .done}
def vI:=Aq [(196,Ac F50),(19,Ac jU),(82,Ac uJ),(144,wQ NX),(211,Ac EZ),(210,wQ Nt),(146,wQ vG)]
def W60:Wb->Oc->List D->Option WY:=RW vI aGs [] 72
def aVo:(wQ W60).ok Qc 150:=De (Aj func150) (Aa aU2 (Aa aRx (Aa aJh (Aa Rx (Aa Ii (Aa L8 (Aa fV Ad)))))))
def aCP(w:Wb)(o:Oc)(b:Oc)(ol:Option (List Nat))(f:o.nl=true->o.ops=[])(q:Bool)(s:List Tk)(e:Int)(c:F50 [.agg [.slice w.v.nlt [] (AI w.v.ks)],.agg [.str w.a.ot,.str w.a.tk,.slice w.a.nlr [] (Ar w.a.rs)]]=some (.tup [.agg [.slice q [] (AI s)],.int .i64 e]))(z:e≠0)(r:NX w o [.int .i64 e]=some (.tup [],b,ol)):W60 w o []=some (.tup [],b,ol.map (·++[47])):=by
 refine A5 f ⟨Qa rfl,λh=>Cw r h,λl h=>Cv r h,λi m fr t j x u n0=>?_⟩;have g:=Wt.start j x;unfold aGs;have y:=AJ j.1;simp only[GC,↓C2,Gy,simprocAttr,y];refine Va ?_;simp only[GC,↓C2,Gy,simprocAttr,y,n0,Ae vI 196,c];refine Va ?_;simp only[↓C2,GA,Gy,simprocAttr,eq_false z,AD vI 144];refine Ap g.put.put.put.put r (λM c1 p=>?_);simp only[↓C2,GD,simprocAttr];exact c1.endc j.2.2
def aCO(w:Wb)(o:Oc)(b:Oc)(ol:Option (List Nat))(p:o.nl=true->o.ops=[])(q:Bool)(s:List Tk)(c:F50 [.agg [.slice w.v.nlt [] (AI w.v.ks)],.agg [.str w.a.ot,.str w.a.tk,.slice w.a.nlr [] (Ar w.a.rs)]]=some (.tup [.agg [.slice q [] (AI s)],.int .i64 0]))(nb:Bool)(ns:List D)(f:jU [.agg [.slice w.v.nlt [] (AI w.v.ks)]]=some (.slice nb [] ns))(u:(24:Int)<=(ns.length:Int))(r:NX w o [.int .i64 24]=some (.tup [],b,ol)):W60 w o []=some (.tup [],b,ol.map (·++[48])):=by
 refine A5 p ⟨Qa rfl,λh=>Cw r h,λl h=>Cv r h,λi m fr t j x e n0=>?_⟩;have g:=Wt.start j x;unfold aGs;have y:=AJ j.1;simp only[GC,↓C2,Gy,simprocAttr,y];refine Va ?_;simp only[GC,↓C2,Gy,simprocAttr,y,n0,Ae vI 196,c];refine Va ?_;simp only[GC,↓C2,Gy,simprocAttr,y,n0,Ae vI 19,f,eq_true u,AD vI 144];refine Ap g.put.put.put.put r (λM c1 n=>?_);simp only[↓C2,GD,simprocAttr];exact c1.endc j.2.2
def aOP(w:Wb)(o:Oc)(q:Bool)(k2:List Tk)(c:F50 [.agg [.slice w.v.nlt [] (AI w.v.ks)],.agg [.str w.a.ot,.str w.a.tk,.slice w.a.nlr [] (Ar w.a.rs)]]=some (.tup [.agg [.slice q [] (AI k2)],.int .i64 0]))(nb:Bool)(ns:List D)(f:jU [.agg [.slice w.v.nlt [] (AI w.v.ks)]]=some (.slice nb [] ns))(e:dU o)(u:¬(24:Int)<=(ns.length:Int))(b:Bs)(e3:Int)(g:uJ [.agg [.str w.a.ot,.str w.a.tk,.slice w.a.nlr [] (Ar w.a.rs)]]=some (.tup [.str b,.int .i64 e3]))(y:w.a.ot.length<=1000000):W60 w o []=some (.tup [],mkO o q k2 w.a.ot b,some ([11,67])):=by
 refine A5 (λ_=>e.ops) ⟨Qa rfl,λh=>Xd,λl h=>XA,λi m fr t j x ja n0=>?_⟩;have hW:=Wt.start j x;unfold aGs;have r:=CP 3 0 w.a.ot y;have k:=DH w (Sz o q k2) 1 (A_ 3 w.a.ot 0) b (λ_=>e.ops) (by show o.ops.length<=_;rw[e.ops];simp);have z:=Fz w ((Sz o q k2).op 1 (A_ 3 w.a.ot 0) b) (λh=>Xd);have s:=AJ j.1;simp only[GC,↓C2,Gy,simprocAttr,s];refine Va ?_;simp only[GC,↓C2,Gy,simprocAttr,s,n0,Ae vI 196,c];refine Va ?_;simp only[GC,↓C2,Gy,simprocAttr,s,n0,Ae vI 19,f,eq_false u,Ae vI 82,g,Ae vI 211,r,AD vI 210];refine Ap (hW.put.put.put.put.cellp (p:=29) (ys:=[.slice q [] (AI k2)]) (o':=Sz o q k2) (Qa rfl) rfl rfl rfl) k (λM c1 n=>?_);simp only[↓C2,GD,GN,simprocAttr,AD vI 146];refine Ap c1 z (λM2 d1 d2=>?_);simp only[↓C2,GD,simprocAttr];exact d1.endl (l:=[11,67]) U
def aJR:=y0 f238 [] []
def aJ6:=y0 Tryz.f166 [] []
def aKK:=y0 f271 [] []
def iJ:=y1 f152 6 [] []
def aGq:=y0 f152 [] [(6,iJ)]
def gC:∀(l:Bs)(c:UInt8),Lib.indexByte l c=-1∨(0<=Lib.indexByte l c∧Lib.indexByte l c<(l.length:Int))
 |[],_=> .inl rfl
 |b::l,c=>by
  have ih:=gC l c;simp only[Lib.indexByte,beq_iff_eq,Qb];split
  ·omega
  ·omega
def Bv(s:Bs)(c:UInt8):Bs×Bs×Bool:=if Lib.indexByte s c<0 then(s,[],false)else(s.take (Lib.indexByte s c).toNat,s.drop ((Lib.indexByte s c).toNat+1),true)
def Cc(s z:Bs):Bs×Bool:=if Cs s z=false then([],false)else if(Bv (C6 s z) 47).2.2=true then((Bv (C6 s z) 47).1++[47],true)else(C6 s z,true)
def aUy{s:Bs}{c:UInt8}:IX [.str s,.str [c]]=some (.int .i64 (Lib.indexByte s c)):=rfl
def aOV:=Aq [(237,Ac IX)]
def aPf:=RF aOV aJR [.t 4,.t 5,.t 6] 23
def aSi:Kq aPf 238:=An (Aj func238) (Aa aSl Ad)
def aG1(s:Bs)(c:UInt8)(hl:s.length<=1000000):aPf [.str s,.str [c]]=some (.tup [.str (Bv s c).1,.str (Bv s c).2.1,.bool (Bv s c).2.2]):=by
 refine Al (Qa rfl) ?_;unfold aJR;have a:=aUy (s:=s) (c:=c);have m:=gC s c;unfold Bv;generalize Lib.indexByte s c=q at *;by_cases v:q<0
 ·have b:((0:Int)<=q)=False:=eq_false O;rw[if_pos v];simp only[↓C2,GA,Gy,simprocAttr,Ae aOV 237,a,b]
  all_goals exact YR
 ·have b:(0:Int)<=q:=by omega
  have j:(q<=(s.length:Int))=True:=eq_true O;have z:(q+1<=(s.length:Int))=True:=eq_true O;have f:(0:Int)<=q+1:=O
  have w:(q+1).toNat=q.toNat+1:=O
  have o:q.toNat<=s.length:=O
  have u:q.toNat+1<=s.length:=O
  have k:IntKind.i64.wrap (q+1)=q+1:=GZ O O;have y1:((1:Nat):Int)=1:=rfl;have t:ZA (s.length-(q.toNat+1)) (s.drop (q.toNat+1))=s.drop (q.toNat+1):=QJ X4;rw[if_neg v];simp only[↓C2,GA,Gy,simprocAttr,Ae aOV 237,a,b,j,z,f,w,k,y1,t,Q2,Qb,Qg];refine As.intro (λp g=>Xr) ?_;simp only[↓C2,GA,Gy,simprocAttr]
  all_goals exact YR
def aT1:=Aq [(238,Ac aPf)]
def aHb:=RF aT1 aJ6 [.t 4,.t 5,.t 6] 13
def aI5:Kq aHb 166:=An (Aj func166) (Aa aSi Ad)
def nR(s:Bs)(c:UInt8)(hl:s.length<=1000000):aHb [.str s,.str [c]]=some (.tup [.str (Bv s c).1,.str (Bv s c).2.1,.bool (Bv s c).2.2]):=by
 refine Al (Qa rfl) ?_;unfold aJ6;have a:=aG1 s c hl;simp only[↓C2,GA,Gy,simprocAttr,Ae aT1 238,a]
 all_goals exact YR
def uG:=Aq [(109,Ac uT),(166,Ac aHb)]
def aUu:=RF uG aKK [.t 4,.t 5] 29
def aSL:Kq aUu 271:=An (Aj func271) (Aa aIN (Aa aI5 Ad))
def aHs(s z:Bs)(hl:s.length<=1000000)(n:(C6 s z).length<=s.length):aUu [.str s,.str z]=some (.tup [.str (Cc s z).1,.bool (Cc s z).2]):=by
 refine Al (Qa rfl) ?_;unfold aKK;have c:uT [.str s,.str z]=some (.tup [.str (C6 s z),.bool (Cs s z)]):=rfl;have d:=nR (C6 s z) 47 O;have y:(Bv (C6 s z) 47).1.length<=(C6 s z).length:=by
  grind [Bv]
 unfold Cc;generalize Bv (C6 s z) 47=q at *;generalize C6 s z=r at *;obtain⟨w,o,u⟩:=q;simp only at y d ⊢;cases hb:Cs s z with
 |false=>
  rw[hb]at c;simp only[↓C2,GA,Gy,simprocAttr,Ae uG 109,c]
  all_goals exact YR
 |true=>
  rw[hb]at c;have j:=Iv (a:=w) (b:=[47]) Yy;cases u with
  |false=>
   simp only[↓C2,GA,Gy,simprocAttr,Ae uG 109,c,Ae uG 166,d]
   all_goals exact YR
  |true=>
   have ta:(w.length+1<=9223372036854775807)=True:=eq_true O;simp only[↓C2,GA,Gy,simprocAttr,Ae uG 109,c,Ae uG 166,d,j]
   all_goals exact YR
def Ut:=y1 f312 2 [] []
def aJ8:=y0 f312 [] [(2,Ut)]
def aKM:=y0 f269 [] []
def rK{l:List Bs}{n:Bs}{j:Nat}(u:j<l.length)(q:n=l[j])(e:∀i (h:i<j),n≠l[i]'(by omega)):Bh (l.map λx=>decide (n=x))=j:=by
 unfold Bh;have:(l.map λx=>decide (n=x)).findIdx? id=some j:=by
  rw[List.findIdx?_eq_some_iff_getElem];refine⟨Xu,by simp[q],λi hi=>?_⟩;have:=e i hi;simpa using this
 rw[this]
def rJ{l:List Bs}{n:Bs}(e:∀i (h:i<l.length),n≠l[i]):Bh (l.map λx=>decide (n=x))=-1:=by
 unfold Bh;have:(l.map λx=>decide (n=x)).findIdx? id=none:=by
  rw[List.findIdx?_eq_none_iff];intro b m;obtain⟨x,q,rfl⟩:=Qp.1 m;obtain⟨i,hi,rfl⟩:=QI q;simpa using e i hi
 rw[this]
def FV(l:List Bs)(n:Bs):Bool:=l.any λx=>decide (n=x)
def WB(l:List Bs)(n:Bs):decide (0<=Bh (l.map λx=>decide (n=x)))=FV l n:=by
 rw[Gl,List.any_map];rfl
def aVU:=Aq []
def aPm:=RF aVU aJ8 [.t 4] 19
def aSt:Kq aPm 312:=An (Aj func312) Ad
def aHc{nl:Bool}{l:List Bs}(n:Bs)(hl:l.length<=100000):aPm [.slice nl [] (strsD l),.str n]=some (.int .i64 (Bh (l.map λx=>decide (n=x)))):=by
 refine Al (Qa rfl) ?_;unfold aJ8;simp only[↓C2,GD,simprocAttr,AM];refine BI (n:=l.length) (I:=λj v=>v.s 0= .slice nl [] (strsD l)∧v.s 1= .str n∧v.s 7= .int .i64 l.length∧v.s 8= .int .i64 (j:Int)∧∀i (h:i<j) (y:i<l.length),n≠l[i]) (λj z ih v g hI=>?_) (λv g hI=>?_) 0 (Qf _) _ _ ⟨rfl,rfl,rfl,rfl,λi h=>absurd h (ZK _)⟩
 ·obtain⟨p,t,b⟩:=v;obtain⟨f,u,h7,c,r⟩:=hI;simp only at f u h7 c;refine Af Ut.eq_1 ?_;have w:((j:Int)<l.length):=by omega
  have o:=nJ (j:=j);have k:=wJ (j:=j) O;have m:=C_ (l:=l) (j:=j) z;by_cases q:n=l[j]
  ·have e:=rK z q (λi h=>r i h O);have a:(n=l[j])=True:=eq_true q;simp only[↓C2,GA,Gy,simprocAttr,f,u,h7,c,w,o,Qm,m,a];rw[e]
   all_goals exact YR
  ·have a:(n=l[j])=False:=eq_false q;simp only[↓C2,GA,Gy,simprocAttr,f,u,h7,c,w,o,Qm,m,a,k];refine ih _ _ ⟨f,u,h7,rfl,λi h y=>?_⟩;rcases Nat.lt_or_eq_of_le (Nat.le_of_lt_succ h)with h|rfl
   ·exact r i h y
   ·exact q
 ·obtain⟨f,u,h7,c,r⟩:=hI;refine Af Ut.eq_1 ?_;have e:=rJ (λi h=>r i h h);simp only[↓C2,GA,Gy,simprocAttr,h7,c,Zb];rw[e]
  all_goals exact YR
def aT9:=Aq [(312,Ac aPm)]
def aUv:=RF aT9 aKM [.t 4] 9
def aSM:Kq aUv 269:=An (Aj func269) (Aa aSt Ad)
def aHt{nl:Bool}{l:List Bs}(n:Bs)(hl:l.length<=100000):aUv [.slice nl [] (strsD l),.str n]=some (.bool (FV l n)):=by
 refine Al (Qa rfl) ?_;unfold aKM;have a:=aHc (nl:=nl) n hl;have e:=WB l n;generalize Bh (l.map λx=>decide (n=x))=i at *;simp only[↓C2,GA,Gy,simprocAttr,Ae aT9 312,a];rw[←e]
 all_goals exact YR
def BW(l:List Bs):List Bs:=l.filterMap λs=>if(Dv s).2=0∧(Dv s).1.1=1 then some (Dv s).1.2.1 else none
def VU(l:List Bs)(s:Bs):BW (l++[s])=BW l++if(Dv s).2=0∧(Dv s).1.1=1 then [(Dv s).1.2.1]else []:=by
 grind [BW]
def Gx(e:Nat)(fr:Id)(m:GB)(c:Nat)(nl:Bool)(t:Id):Prop:=(nl=true∧t=[])∨(nl=false∧∃k,t=k::fr∧k<c∧m t 0=some (.tok (e+1)))
def Gx.more{e:Nat}{fr:Id}{m:GB}{c c':Nat}{nl:Bool}{t:Id}(h:Gx e fr m c nl t)(o:c<=c'):Gx e fr m c' nl t:=by
 rcases h with h|⟨u,k,y,p,n⟩
 ·exact .inl h
 ·exact .inr ⟨u,k,y,O,n⟩
def Gx.put{e:Nat}{fr:Id}{m:GB}{c:Nat}{nl:Bool}{t:Id}{k o:Nat}{ds:List D}(h:Gx e fr m c nl t)(s:c<=k:=by omega):Gx e fr (m.put (k::fr) o ds) c nl t:=by
 rcases h with h|⟨u,q,y,p,n⟩
 ·exact .inl h
 ·refine .inr ⟨u,q,y,p,?_⟩;rw[aA]
  ·exact n
  ·rw[y];simp;omega
def Gx.grow{e:Nat}{fr:Id}{m:GB}{c:Nat}{nl:Bool}{t:Id}{xs:List D}(h:Gx e fr m c nl t):I1 m e (.slice nl t xs):=by
 rcases h with h|⟨u,q,y,p,n⟩
 ·exact .inl h.1
 ·exact .inr ⟨n,by rw[y];simp⟩
def Gx.app{e:Nat}{fr:Id}{m:GB}{c' k:Nat}{nl:Bool}{t:Id}{xs:List D}(s:k<c'):Gx e fr (GF.app m (Bc e (k::fr) (.slice nl t xs))) c' false (k::fr):=
 .inr ⟨rfl,k,rfl,s,by rw[C7,if_pos ⟨rfl,rfl⟩]⟩
def Wt.own{i fr t0 t:Id}{m0 m:GB}{nl0:Bool}{w:Wb}{o:Oc}{e c k:Nat}{nl:Bool}{z:Id}{xs:List D}(h:Wt i fr m0 nl0 t0 m w o t)(n:∀j x,fr<:+j->m0 j x=none)(u:∀k,(i=k::fr)=False)(s:Gx e fr m c nl z):Wt i fr m0 nl0 t0 (GF.app m (Bc e (k::fr) (.slice nl z xs))) w o t:=by
 rcases s with ⟨rfl,_⟩|⟨rfl,q,rfl,_,_⟩
 ·exact h.put n u
 ·exact(h.put n u).put n u
def S62(G:List D->Option D):Gz:=Aq [(213,Ac uK),(215,Ac jP),(216,wQ UV),(22,Ac R38),(217,Ac G),(145,wQ cO)]
def W62(G:List D->Option D):Wb->Oc->List D->Option WY:=RW (S62 G) aGq [] 72
def aVm{G:List D->Option D}(h:Kq G 217):(wQ (W62 G)).ok Qc 152:=De (Aj func152:Fn Qc 152 72 aGq []) (Aa aJi (Aa aS1 (Aa aAc (Aa aVv (Aa h (Aa fW Ad))))))
def aCM(G:List D->Option D)(w:Wb)(o:Oc)(v:Oc)(ol:Option (List Nat))(p:o.nl=true->o.ops=[])(ab:Bool)(f:List Bs)(g:w.a.pa.length<=1000000)(r:jP [.agg (Ha w.k),.str ([109,47]++w.a.pa++[47])]=some (.tup [.slice ab [] (strsD f),.bool false]))(ia:UV w o [.str ([109,47]++w.a.pa++[47]),.bool true]=some (.tup [],v,ol)):W62 G w o []=some (.tup [],v,ol.map (·++[24])):=by
 refine A5 p ⟨Qa rfl,λh=>Cw ia h,λl h=>Cv ia h,λi m fr t j x e n0=>?_⟩;have s:S62 G 213=some (Ac uK):=rfl;have q:S62 G 215=some (Ac jP):=rfl;have b:S62 G 216=some (wQ UV):=rfl;have hW:=Wt.start j x;unfold aGq;have y:=AJ j.1;have c:=UY w.a.pa g;generalize na:([109,47]++w.a.pa++[47]:Bs)=u at *;generalize ([100,47]++w.a.pa++[47]:Bs)=z at *;unfold Ha at r;have y1:((1:Nat):Int)=1:=rfl;have y2:((2:Nat):Int)=2:=rfl;have cb:(0:Int)<=0:=ZS _;simp only[GC,↓C2,Gy,simprocAttr,y,cb,Q1,Qb,Qg,Ab s,c,Ab q,r,AE b];refine Ap hW ia (λM c1 n=>?_);simp only[↓C2,GD,simprocAttr];exact c1.endc j.2.2
def aON(G:List D->Option D)(w:Wb)(o:Oc)(o2:Oc)(ho:o.nl=true->o.ops=[])(ab:Bool)(f:List Bs)(hp:w.a.pa.length<=1000000)(r:jP [.agg (Ha w.k),.str ([109,47]++w.a.pa++[47])]=some (.tup [.slice ab [] (strsD f),.bool true]))(hl:f.length<=2000)(hs:∀s∈f,s.length<=1000000)(nn:Bool)(d:List Bs)(eb:∀b,(b=true->BW f=[])->G [.str w.a.pa,.slice b [] (strsD (BW f))]=some (.slice nn [] (strsD d)))(qa:d.length<=2000)(hb:nn=true->d=[])(ua:cO w o [.agg (Hh (.names nn (d.take 64)))]=some (.tup [],o2,none)):W62 G w o []=some (.tup [],o2,none):=by
 refine A5 ho ⟨Qa rfl,λh=>((EF ua).2.1 rfl),λl h=>Xd,λi m fr t ha ca ja n0=>?_⟩;have va:S62 G 213=some (Ac uK):=rfl;have ga:S62 G 215=some (Ac jP):=rfl;have db:S62 G 22=some (Ac R38):=rfl;have fb:S62 G 217=some (Ac G):=rfl;have ya:S62 G 145=some (wQ cO):=rfl;have hW:=Wt.start ha ca;unfold aGq;have xx:=AJ ha.1;have fa:=UY w.a.pa hp;generalize na:([109,47]++w.a.pa++[47]:Bs)=q1 at *;generalize ([100,47]++w.a.pa++[47]:Bs)=q2 at *;unfold Ha at r;have y1:((1:Nat):Int)=1:=rfl;have y2:((2:Nat):Int)=2:=rfl;have cb:(0:Int)<=0:=ZS _;simp only[GC,↓C2,Gy,simprocAttr,xx,cb,Q1,Qb,Qg,Ab va,fa,Ab ga,r,AM];refine BI (n:=f.length) (I:=λj st=>st.s 33= .slice ab [] (strsD f)∧st.s 34= .int .i64 f.length∧st.s 35= .int .i64 (j:Int)∧st.s 0= .ptr i 0∧∃nl' t',st.s 5= .slice nl' t' (strsD (BW (f.take j)))∧(nl'=true->BW (f.take j)=[])∧Gx 9 fr st.m st.c nl' t'∧Wt i fr m o.nl t st.m w o t) (λj hj ih st g hI=>?_) (λst g hI=>?_) 0 (Qf _) _ _ ⟨rfl,rfl,rfl,rfl,true,[],rfl,λ_=>rfl,.inl ⟨rfl,rfl⟩,hW⟩
 ·obtain⟨ma,ia,ea⟩:=st;obtain⟨z,u,la,y,nl',t',h5,wa,hG,hw⟩:=hI;simp only at z u la y h5 hG hw;refine Af iJ.eq_1 ?_;have da:((j:Int)<(f.length:Int))=True:=eq_true O;have oa:=nJ (j:=j);have sa:IntKind.i64.wrap ((j:Int)+1)=((j+1:Nat):Int):=by rw[GZ O O];omega
  have ka:=C_ (l:=f) (j:=j) hj;have v:=aPb f[j] (hs _ (QL hj));have aa:f.take (j+1)=f.take j++[f[j]]:=QR hj;have ta:(BW (f.take j)).length<=j:=by
   have:=Q5 (λs=>if(Dv s).2=0∧(Dv s).1.1=1 then some (Dv s).1.2.1 else none) (f.take j);rw[Za]at this;unfold BW;omega
  have ba:=VU (f.take j) f[j];rw[←aa]at ba;generalize f[j]=x at *;generalize Dv x=px at *;obtain⟨⟨kk,nm,vv⟩,e⟩:=px;simp only at ba v;unfold kyD at v;by_cases he:e=0
  ·subst he;by_cases hk:kk=1
   ·subst hk;simp only[and_self,if_true]at ba;simp only[GC,↓C2,Gy,simprocAttr,z,u,la,h5,da,oa,Qm,ka,AM,Ab db,v];have gb:=((hG.put (k:=ea+1+3+5) (o:=0) (ds:=[.int .u8 0,.str [],.int .i64 0]) O).put (k:=ea+1+3+5) (o:=0) (ds:=[.int .u8 1,.str nm,.int .i64 vv]) O).put (k:=ea+1+3+8+7+3) (o:=0) (ds:=[.tok 10]) O;have kb:=((hw.put (q:=ea+1+3+5) (p:=0) (ys:=[.int .u8 0,.str [],.int .i64 0])).put (q:=ea+1+3+5) (p:=0) (ys:=[.int .u8 1,.str nm,.int .i64 vv])).put (q:=ea+1+3+8+7+3) (p:=0) (ys:=[.tok 10]);refine As.intro ⟨O,rfl,gb.grow⟩ ?_;rw[B0 (λh=>by rw[wa h];rfl),MS];have bb:=kb.own (e:=9) (k:=ea+1+3+8+7+4) (xs:=strsD (BW (f.take j))) ca n0 gb;have ib:=Gx.app (e:=9) (fr:=fr) (m:=((ia.put ((ea+1+3+5)::fr) 0 [D.int .u8 0,.str [],.int .i64 0]).put ((ea+1+3+5)::fr) 0 [.int .u8 1,.str nm,.int .i64 vv]).put ((ea+1+3+8+7+3)::fr) 0 [.tok 10]) (k:=ea+1+3+8+7+4) (c':=ea+1+3+8+7+5) (nl:=nl') (t:=t') (xs:=strsD (BW (f.take j))) O;simp only[↓C2,GD,simprocAttr,la,sa];exact ih _ _ ⟨z,u,rfl,y,false,(ea+1+3+8+7+4)::fr,(by rw[ba];show D.slice _ _ _=_;simp[strsD]),(λh=>Xd),ib.more (c':=ea+1+3+8+7+6+2) O,bb⟩
   ·rw[if_neg (λh=>hk h.2),Zu]at ba;simp only[GC,↓C2,Gy,simprocAttr,z,u,la,da,oa,Qm,ka,Ab db,v,eq_false hk,sa];exact ih _ _ ⟨z,u,rfl,y,nl',t',by rw[ba];exact h5,by rw[ba];exact wa,hG.put.put.more Xb,hw.put.put⟩
  ·rw[if_neg (λh=>he h.1),Zu]at ba;simp only[GC,↓C2,Gy,simprocAttr,z,u,la,da,oa,Qm,ka,Ab db,v,eq_false he,sa];exact ih _ _ ⟨z,u,rfl,y,nl',t',by rw[ba];exact h5,by rw[ba];exact wa,hG.put.put.more Xb,hw.put.put⟩
 ·obtain⟨ma,ia,ea⟩:=st;obtain⟨z,u,la,y,nl',t',h5,wa,hG,hw⟩:=hI;simp only at z u la y h5 hG hw;refine Af iJ.eq_1 ?_;rw[Zn]at h5 wa;have za:=eb nl' wa;have xa:ZA 64 (strsD d)=strsD (d.take 64):=(ZO ..).symm;have xx:=AJ hw.at_.1;have hq:∃q:Int,min (d.length:Int) 64=q∧0<=q∧q<=(d.length:Int)∧q.toNat<=d.length∧ZA q.toNat (strsD d)=strsD (d.take 64):=by
   refine⟨_,rfl,O,O,O,?_⟩;rw[←xa];by_cases c:d.length<=64
   ·rw[QJ (by rw[AM];omega),QJ (by rw[AM];omega)]
   ·grind
  obtain⟨q,ra,q0,jb,lb,q3⟩:=hq;have hd:aF (strsD d) 1=1:=by cases d<;>rfl
  simp only[Hh]at ua;simp only[↓C2,GA,Gy,simprocAttr,y,u,la,h5,Zb,xx.2.2.2.2.2.2.2.1,Ab fb,za,AM,ra,q0,jb,hd,Q2,q3,AE ya];refine Ap hw ua (λM c1 c2=>?_);simp only[↓C2,GD,simprocAttr];exact c1.end0 ha.2.2
def DD(o:Oc)(l:List Bs):Oc:={o with nl:=o.nl&&l.isEmpty,ops:=o.ops++l.map λn=>(2,A_ 3 n 0,[])}
def aAN{o:Oc}{l:List Bs}{n:Bs}:(DD o l).op 2 (A_ 3 n 0) []=DD o (l++[n]):=by
 simp[DD,Oc.op]
def rC{o:Oc}:DD o []=o:=by simp[DD]
def qB(o:Oc)(nl:Bool)(k:List Tk)(gnl:Bool)(gone:List Bs):Oc:={DD (Sz o nl k) gone with rep:=Hg (.names gnl gone)}
def S61(G:List D->Option D):Gz:=Aq [(214,Ac G),(144,wQ NX),(211,Ac EZ),(210,wQ Nt),(145,wQ cO)]
def W61(G:List D->Option D):Wb->Oc->List D->Option WY:=RW (S61 G) aGr [] 48
def aVn{G:List D->Option D}(h:Kq G 214):(wQ (W61 G)).ok Qc 151:=De (Aj func151:Fn Qc 151 48 aGr []) (Aa h (Aa Rx (Aa Ii (Aa L8 (Aa fW Ad)))))
def aCN(G:List D->Option D)(w:Wb)(o:Oc)(g:Oc)(ol:Option (List Nat))(f:o.nl=true->o.ops=[])(q:Bool)(s:List Tk)(gnl:Bool)(gone:List Bs)(e:Int)(d:G [.agg [.slice w.v.nlt [] (AI w.v.ks)],.str w.a.ot]=some (.tup [.agg [.slice q [] (AI s)],.slice gnl [] (strsD gone),.int .i64 e]))(z:e≠0)(r:NX w o [.int .i64 e]=some (.tup [],g,ol)):W61 G w o []=some (.tup [],g,ol.map (·++[23])):=by
 refine A5 f ⟨Qa rfl,λh=>Cw r h,λl h=>Cv r h,λi m fr t j x u n0=>?_⟩;have b:S61 G 214=some (Ac G):=rfl;have c:S61 G 144=some (wQ NX):=rfl;have k:=Wt.start j x;unfold aGr;have y:=AJ j.1;simp only[GC,↓C2,Gy,simprocAttr,y,Ab b,d];refine Va ?_;simp only[↓C2,GA,Gy,simprocAttr,eq_false z,AE c];refine Ap k.put.put r (λM c1 p=>?_);simp only[↓C2,GD,simprocAttr];exact c1.endc j.2.2
def aOO(G:List D->Option D)(w:Wb)(o:Oc)(ga:Bool)(k2:List Tk)(gnl:Bool)(gone:List Bs)(d:G [.agg [.slice w.v.nlt [] (AI w.v.ks)],.str w.a.ot]=some (.tup [.agg [.slice ga [] (AI k2)],.slice gnl [] (strsD gone),.int .i64 0]))(h0:dU o)(hg:gone≠[])(hl:gone.length<=900)(hs:∀s∈gone,s.length<=1000000)(q:gnl=true->gone=[]):W61 G w o []=some (.tup [],qB o ga k2 gnl gone,some ([11,28+10*gone.length])):=by
 refine A5 (λ_=>h0.ops) ⟨Qa rfl,λh=>Xd,λl h=>(by simp only[Qs]at h;subst h;exact⟨by cases gone with|nil=>exact absurd rfl hg|cons a r=>simp[qB,DD],U⟩),λi m fr t ha ca ja n0=>?_⟩;have b:S61 G 214=some (Ac G):=rfl;have x:S61 G 211=some (Ac EZ):=rfl;have k:S61 G 210=some (wQ Nt):=rfl;have ya:S61 G 145=some (wQ cO):=rfl;have hW:=Wt.start ha ca;unfold aGr;have xx:=AJ ha.1;have ua:=Gq w (DD (Sz o ga k2) gone) (.names gnl gone) (λh=>by
  simp only[DD,QB,ZH]at h;exact absurd h.2 hg) (by show gone.length<=1000;omega) q
 simp only[Hh]at ua;have ra:(Sz o ga k2).nl=o.nl∧(Sz o ga k2).ops=[]:=⟨rfl,h0.ops⟩;simp only[GC,↓C2,Gy,simprocAttr,xx,Ab b,d];refine Va ?_;simp only[GC,↓C2,Gy,simprocAttr,xx,n0,AM];refine BI (n:=gone.length) (I:=λj st=>st.s 33= .slice gnl [] (strsD gone)∧st.s 34= .int .i64 gone.length∧st.s 35= .int .i64 (j:Int)∧st.s 0= .ptr i 0∧st.s 3= .slice gnl [] (strsD gone)∧st.c=31+10*j∧Wt i fr m o.nl t st.m w (DD (Sz o ga k2) (gone.take j)) (if j=0 then t else [11,28+10*j]++fr)) (λj hj ih st g hI=>?_) (λst g hI=>?_) 0 (Qf _) _ _ ⟨rfl,rfl,rfl,rfl,rfl,rfl,?_⟩
 ·obtain⟨ma,ia,ea⟩:=st;obtain⟨z,u,la,y,h3,hc,hw⟩:=hI;simp only at z u la y h3 hc hw;refine Af iK.eq_1 ?_;have da:((j:Int)<(gone.length:Int))=True:=eq_true O;have oa:=nJ (j:=j);have ka:=C_ (l:=gone) (j:=j) hj;have sa:IntKind.i64.wrap ((j:Int)+1)=((j+1:Nat):Int):=by rw[GZ O O];omega
  have ba:=CP 3 0 gone[j] (hs _ (QL hj));have na:(DD (Sz o ga k2) (gone.take j)).nl=true->(DD (Sz o ga k2) (gone.take j)).ops=[]:=λh=>by
   simp only[DD,QB,ZH]at h ⊢;rw[ra.2,h.2];rfl
  have f:(DD (Sz o ga k2) (gone.take j)).ops.length<=1000:=by simp[DD,ra.2];omega
  have qa:=DH w (DD (Sz o ga k2) (gone.take j)) 2 (A_ 3 gone[j] 0) [] na f;rw[aAN,←QR hj]at qa;simp only[↓C2,GA,Gy,simprocAttr,y,z,u,la,da,oa,Qm,ka,Ab x,ba,AE k];refine Ap hw qa (λM c1 c2=>?_);have e:L3 (if j=0 then t else [11,28+10*j]++fr) ((ea+1+3+3)::fr) (some [11])=(if j+1=0 then t else [11,28+10*(j+1)]++fr):=by
   rw[if_neg (Ql j)];show [11]++_::fr=_;rw[show ea+1+3+3=28+10*(j+1)by omega];rfl
  rw[e]at c1;simp only[↓C2,GD,simprocAttr,la,sa];exact ih _ _ ⟨z,u,rfl,y,h3,Xb,c1⟩
 ·obtain⟨ma,ia,ea⟩:=st;obtain⟨z,u,la,y,h3,hc,hw⟩:=hI;simp only at z u la y h3 hc hw;refine Af iK.eq_1 ?_;have fa:gone.length≠0:=λh=>hg (Zo.1 h)
  rw[Zn,if_neg fa]at hw;simp only[↓C2,GA,Gy,simprocAttr,y,u,la,h3,Zb,AE ya];refine Ap hw ua (λM c1 c2=>?_);simp only[↓C2,GD,simprocAttr];exact c1.endl (l:=[11,28+10*gone.length]) U
 ·simp only[Zf,rC,if_true];exact(hW.put.put.cellp (p:=29) (ys:=[.slice ga [] (AI k2)]) (o':=Sz o ga k2) (Qa rfl) rfl rfl rfl)
def nM(i w:List D->Option D):Gz:=Aq [(143,Ac jT),(144,wQ NX),(145,wQ cO),(146,wQ vG),(147,wQ W57),(148,wQ W58),(149,wQ W59),(150,wQ W60),(151,wQ (W61 i)),(152,wQ (W62 w)),(153,wQ Vb),(154,wQ SZ)]
def R19(i w:List D->Option D):List D->Option D:=RF (nM i w) aGw [.cell (some 9) 6] 88
def aVw{i w:List D->Option D}(u:Kq i 214)(y:Kq w 217):(Ac (R19 i w)).ok Qc 87:=An (Aj func87:Fn Qc 87 88 aGw [.cell (some 9) 6]) (Aa aU5 (Aa Rx (Aa fW (Aa fV (Aa aVr (Aa aVq (Aa aVp (Aa aVo (Aa (aVn u) (Aa (aVm y) (Aa aVl (Aa aVk Ad))))))))))))
def GI(v:Vw):Oc:=⟨[],false,[],true,[],v⟩
def Li(o:Oc):List D:=[.str o.need,.bool o.li,.str o.rep,.slice o.nl [] (D5 o.ops)]++Hc o.vw
def aMC{m:GB}{i:Id}{w:Wb}{o o':Oc}{k:Nat}{d:D}{ol:Option (List Nat)}(f:o.nl=true)(hi:∀l,i≠l++[k]):Ag (GF.app m (Vl i w o [] [k] (d,o',ol))) i 0 30=some (Hn w o' (L3 [] [k] ol)):=by
 cases ol with
 |none=>exact GX (CI _ _ _)
 |some l=>
  show Ag _ i 0 30=some (Hn w o' (l++[k]));rw[←GX (m:=m) (i:=i) (CI w o' (l++[k]))];refine BA (λq v=>?_);have na:q.1=i:=ER v;show GF.app (m.put i 0 (Hn w o' (l++[k]))) (Bc 167 (l++[k]) (.slice o.nl [] (D5 o.ops))) q.1 q.2=_;rw[F6,na,if_neg (λe=>hi l e.1),if_neg (λe=>by rw[f]at e;cases e.1)]
def aEM{m:GB}{i j:Id}{w:Wb}{o o':Oc}{k x:Nat}{d:D}{ol:Option (List Nat)}(f:o.nl=true)(hi:∀l,j≠l++[k])(u:j≠i):GF.app m (Vl i w o [] [k] (d,o',ol)) j x=m j x:=by
 cases ol with
 |none=>exact aA u
 |some l=>
  show GF.app (m.put i 0 (Hn w o' (l++[k]))) (Bc 167 (l++[k]) (.slice o.nl [] (D5 o.ops))) j x=_;rw[F6,if_neg (λe=>hi l e.1),if_neg (λe=>by rw[f]at e;cases e.1),aA u]
def TQ{a k:Nat}(h:a≠k):∀l:List Nat,([a]:Id)≠l++[k]:=λl e=>h (by have:=congrArg ZP e;simpa using this)
def lY{i:Id}{m:GB}{w:Wb}{o o':Oc}{r:List D}{d:D}{ol:Option (List Nat)}{F:Wb->Oc->List D->Option WY}{S:Gz}{c k n:Nat}{ops l:List DOper}{s:Nat->D}{f:Option Nat}{K:Nat->(Nat->D)->GB->Prop}{g}
  (hF:F w o r=some (d,o',ol)) (t:UK m i (w,o,[])) (p:o.nl=true) (hi:∀l,i≠l++[n])
  (h:∀M,Ag M i 0 30=some (Hn w o' (L3 [] [n] ol))->(∀j x,(∀l,j≠l++[n])->j≠i->M j x=m j x)->FJ S [] c ops l k (Cp s f d) M K):
  GQ ((wQ F).ex (.ptr i 0::r) m [n]) (λx=>VG S [] c ops l k s f m K x.1 x.2) g:=
 lX t hF (h _ (aMC p hi) (λ_ _ u y=>aEM p u y))
inductive MO (G1 G2:List D->Option D) (v:Vw):Int->Oc->List D->(Wb->Oc->List D->Option WY)->Prop
 |o1:MO G1 G2 v 1 (GI v) [.agg (Hh (.state v.se))] cO
 |o2:MO G1 G2 v 2 {GI v with vw:={v with se:=false}} [] vG
 |o3:MO G1 G2 v 3 {GI v with vw:={v with se:=true}} [] vG
 |o4:MO G1 G2 v 4 (GI v) [] W57
 |o5:MO G1 G2 v 5 (GI v) [] W58
 |o6:MO G1 G2 v 6 (GI v) [] W59
 |o7:MO G1 G2 v 7 (GI v) [] W60
 |o8:MO G1 G2 v 8 (GI v) [] (W61 G1)
 |o17:MO G1 G2 v 17 (GI v) [] (W62 G2)
 |o9:MO G1 G2 v 9 (GI v) [] Vb
 |o18:MO G1 G2 v 18 (GI v) [] Vb
 |o10:MO G1 G2 v 10 (GI v) [] SZ
 |o11:MO G1 G2 v 11 (GI v) [] SZ
 |o12:MO G1 G2 v 12 (GI v) [] SZ
 |o13:MO G1 G2 v 13 (GI v) [] SZ
 |o14:MO G1 G2 v 14 (GI v) [] SZ
 |o15:MO G1 G2 v 15 (GI v) [] SZ
 |o16:MO G1 G2 v 16 (GI v) [] SZ
def Bp{G1 G2:List D->Option D}{v:Vw}{op:Int}{oc:Oc}{r:List D}{W:Wb->Oc->List D->Option WY}(hM:MO G1 G2 v op oc r W)(a:Ak)(k:Kn)(na:a.op=op)(q:jT [Hj v,GW a]=some (.int .i64 0))(o2:Oc)(ol:Option (List Nat))(u:W ⟨v,a,k⟩ oc r=some (.tup [],o2,ol)):R19 G1 G2 [Hj v,GW a,.agg (Ha k)]=some (.agg (Li o2)):=by
 refine Al (Qa rfl) ?_;have b:nM G1 G2 143=some (Ac jT):=rfl;have ya:nM G1 G2 145=some (wQ cO):=rfl;have j:nM G1 G2 146=some (wQ vG):=rfl;have m:nM G1 G2 147=some (wQ W57):=rfl;have c:nM G1 G2 148=some (wQ W58):=rfl;have h:nM G1 G2 149=some (wQ W59):=rfl;have i:nM G1 G2 150=some (wQ W60):=rfl;have o:nM G1 G2 151=some (wQ (W61 G1)):=rfl;have l:nM G1 G2 152=some (wQ (W62 G2)):=rfl;have e:nM G1 G2 153=some (wQ Vb):=rfl;have g:nM G1 G2 154=some (wQ SZ):=rfl;unfold aGw;obtain⟨op,tk,t,ot,n,cas,fl,d,ns,y,f,rs,z⟩:=a;simp only at na;subst na;unfold Hj GW at *;unfold Hc GV Ha at *;cases hM<;>simp only[GC,↓C2,Gy,simprocAttr,Ab b,q,AE ya,AE j,AE m,AE c,AE h,AE i,AE o,AE l,AE e,AE g]
 all_goals
  refine lY u ⟨by first|exact GX rfl|exact(eS (show Ag _ [10] 0 30=some (Hn ⟨v,⟨_,tk,t,ot,n,cas,fl,d,ns,y,f,rs,z⟩,k⟩ (GI v) [])from GX rfl) (Qa rfl)).trans rfl,rfl,λ_=>rfl⟩ rfl (TQ V) (λM c1 p=>?_);have s:=AJ c1;have w:∀x,M [3] x=_:=λx=>p [3] x (TQ V) V
  simp only[GC,↓C2,Gy,simprocAttr,s,w]
  all_goals exact YR
def aC6(i w:List D->Option D)(v:Vw)(a:Ak)(k:Kn)(e:Int)(he:e≠0)(q:jT [Hj v,GW a]=some (.int .i64 e))(g:Oc)(ol:Option (List Nat))(u:NX ⟨v,a,k⟩ (GI v) [.int .i64 e]=some (.tup [],g,ol)):R19 i w [Hj v,GW a,.agg (Ha k)]=some (.agg (Li g)):=by
 refine Al (Qa rfl) ?_;have b:nM i w 143=some (Ac jT):=rfl;have c:nM i w 144=some (wQ NX):=rfl;unfold aGw;obtain⟨op,r,t,ot,n,cas,m,d,ns,y,f,rs,z⟩:=a;unfold Hj GW at *;unfold Hc GV Ha at *;simp only[GC,↓C2,Gy,simprocAttr,Ab b,q,eq_false he,AE c];refine lY u ⟨GX rfl,rfl,λ_=>rfl⟩ rfl (TQ V) (λM c1 p=>?_);have s:=AJ c1;have o:∀x,M [3] x=_:=λx=>p [3] x (TQ V) V
 simp only[GC,↓C2,Gy,simprocAttr,s,o]
 all_goals exact YR
def BZ(l:List Tk)(s:Bs):List Bs:=(l.filter λt=>decide (t.2.1=s)&&decide (t.1≠s)).map (·.1)
def DU(l:List Tk):Nat->Bs->List Bs
 |0,s=>[s]
 |f+1,s=>s::(BZ l s).flatMap (DU l f)
structure Hm (l:List Tk) (r:Bs->Nat):Prop where
 up:∀t∈l,r t.2.1<r t.1
 top:∀t∈l,r t.1<=l.length
 one:l.Pairwise λt u=>t.1≠u.1
def Hm.eq{l:List Tk}{r:Bs->Nat}(h:Hm l r){t u:Tk}(j:t∈l)(z:u∈l)(e:t.1=u.1):t=u:=by
 have q:=h.one;clear h;induction l with
 |nil=>cases j
 |cons a l ih=>
  rw[QM]at q;rcases Qn.1 j with ht'|ht'
  ·grind
  ·grind
inductive Hs (l:List Tk) (s:Bs):Bs->Prop
 |refl:Hs l s s
 |step (t:Tk):t∈l->Hs l s t.2.1->Hs l s t.1
def Hs.trans{l:List Tk}{a b c:Bs}(h:Hs l a b)(k:Hs l b c):Hs l a c:=by
 induction k with
 |refl=>exact h
 |step t j _ ih=>exact .step t j ih
def Ud{l:List Tk}{s c:Bs}(h:c∈BZ l s):∃t∈l,t.2.1=s∧t.1=c∧c≠s:=by
 grind [BZ]
def IR{l:List Tk}:∀(f:Nat)(s x:Bs),x∈DU l f s->Hs l s x
 |0,s,x,h=>by
  rw[DU,Zg]at h;subst h;exact .refl
 |f+1,s,x,h=>by
  rw[DU]at h;rcases Qn.1 h with rfl|h
  ·exact .refl
  ·obtain⟨c,o,q⟩:=Zp.1 h;obtain⟨t,j,rfl,rfl,_⟩:=Ud o;exact(Hs.step t j .refl).trans (IR f _ x q)
section
variable{l:List Tk}{r:Bs->Nat}(T:Hm l r)
include T
def cG{s x:Bs}(h:Hs l s x):r s<=r x:=by
 induction h with
 |refl=>exact Qe _
 |step t j _ ih=>exact QG ih (Nat.le_of_lt (T.up t j))
def aCw{a b x:Bs}(h:Hs l a x)(k:Hs l b x):Hs l a b∨Hs l b a:=by
 induction h with
 |refl=>exact .inr k
 |step t j q ih=>
  generalize e:t.1=y at k;cases k with
  |refl=>subst e;exact .inl (.step t j q)
  |step u z g=>
   have:=T.eq j z e;subst this;exact ih g
def Ij{s c:Bs}(h:c∈BZ l s):r s<r c∧r c<=l.length:=by
 obtain⟨t,j,rfl,rfl,_⟩:=Ud h;exact⟨T.up t j,T.top t j⟩
theorem lT{s a b:Bs}(j:a∈BZ l s)(m:b∈BZ l s)(h:Hs l a b):a=b:=by
 have q:=(Ij T j).1;obtain⟨u,z,c,rfl,_⟩:=Ud m;generalize e:u.1=y at h;cases h with
 |refl=>rfl
 |step t k f=>
  have:=T.eq k z e.symm;subst this;have:=cG T f;rw[c]at this;omega
def gA(s:Bs):(BZ l s).Nodup:=by
 unfold BZ;have h:=(T.one.filter (λt=>decide (t.2.1=s)&&decide (t.1≠s)));rw[QN];exact List.pairwise_map.2 h
def SR:∀(f:Nat)(s:Bs),(DU l f s).Nodup
 |0,s=>by simp[DU]
 |f+1,s=>by
  rw[DU,ZL];refine⟨λh=>?_,?_⟩
  ·obtain⟨c,o,q⟩:=Zp.1 h;have:=cG T (IR f c s q);have:=(Ij T o).1;omega
  ·rw[QN,List.pairwise_flatMap];refine⟨λc _=>QN.1 (SR f c),?_⟩;have w:=QN.1 (gA T s);refine List.Pairwise.imp_of_mem ?_ w;intro a b j m i x q y t e;subst e;rcases aCw T (IR f a x q) (IR f b x t)with h|h
   ·grind [lT]
   ·grind [lT]
omit T in
def mL{f:Nat}{s x:Bs}(h:x∈DU l f s):x∈s::l.map (·.1):=by
 have:=IR f s x h;cases this with
 |refl=>exact Qo ..
 |step t j _=>exact Qt _ (Qp.2 ⟨t,j,rfl⟩)
omit T in
def Sp:∀(a b:List Bs),a.Nodup->(∀x∈a,x∈b)->a.length<=b.length
 |[],b,_,_=>Qf _
 |x::a,b,h,k=>by
  rw[ZL]at h;have q:=k x (Qo ..);have:=Sp a (b.erase x) h.2 (λy o=>by
   have c:=k y (Qt _ o);exact(List.mem_erase_of_ne (λ(e:y=x)=>h.1 (by rw[←e];exact o))).2 c)
  rw[List.length_erase_of_mem q]at this;have u:0<b.length:=List.length_pos_of_mem q;rw[Qb];omega
def mM(f:Nat)(s:Bs):(DU l f s).length<=l.length+1:=by
 have:=Sp _ _ (SR T f s) (λx q=>mL q);simpa using this
end
end Go.Vd
namespace Go.Proofs
open Go.Shelf
def bC:Go.Shelf.Ren:=⟨λ|190=>268|125=>252|258=>311|128=>304|129=>305|302=>333|303=>334|304=>335|305=>336|306=>337|307=>338|308=>339|309=>340|310=>341|333=>345|329=>325|330=>326|334=>346|335=>347|336=>113|344=>348|n=>n,λ|31=>23|9=>9|3=>3|46=>109|0=>0|51=>268|53=>185|4=>4|183=>347|182=>346|131=>103|5=>5|218=>375|222=>379|228=>389|229=>390|n=>n,λ|n=>n⟩
def aX:Go.Proofs.Lays.n190 Qc bC:={
 mixed:=Xa
 f125:=func252.trans (congrArg some Xa)
 f128:=func304.trans (congrArg some Xa)
 f129:=func305.trans (congrArg some Xa)
 f190:=func268.trans (congrArg some Xa)
 f258:=func311.trans (congrArg some Xa)
 f302:=func333.trans (congrArg some Xa)
 f303:=func334.trans (congrArg some Xa)
 f304:=func335.trans (congrArg some Xa)
 f305:=func336.trans (congrArg some Xa)
 f306:=func337.trans (congrArg some Xa)
 f307:=func338.trans (congrArg some Xa)
 f308:=func339.trans (congrArg some Xa)
 f309:=func340.trans (congrArg some Xa)
 f310:=func341.trans (congrArg some Xa)
 f329:=func325.trans (congrArg some Xa)
 f330:=func326.trans (congrArg some Xa)
 f333:=func345.trans (congrArg some Xa)
 f334:=func346.trans (congrArg some Xa)
 f335:=func347.trans (congrArg some Xa)
 f336:=func113.trans (congrArg some Xa)
 f344:=func348.trans (congrArg some Xa)
 t0:=underlying0
 a0:=isAgg0
 z0:=sizeOf0
 v0:=zeroValue0
 t3:=underlying3
 a3:=isAgg3
 z3:=sizeOf3
 v3:=zeroValue3
 t4:=underlying4
 a4:=isAgg4
 z4:=sizeOf4
 v4:=zeroValue4
 t5:=underlying5
 a5:=isAgg5
 z5:=sizeOf5
 v5:=zeroValue5
 t9:=underlying9
 a9:=isAgg9
 z9:=sizeOf9
 v9:=zeroValue9
 t31:=underlying23
 a31:=isAgg23
 z31:=sizeOf23
 v31:=zeroValue23
 t46:=underlying109
 a46:=isAgg109
 z46:=sizeOf109
 v46:=zeroValue109
 t51:=underlying268
 a51:=isAgg268
 z51:=sizeOf268
 v51:=zeroValue268
 t53:=underlying185
 a53:=isAgg185
 z53:=sizeOf185
 v53:=zeroValue185
 t131:=underlying103
 a131:=isAgg103
 z131:=sizeOf103
 v131:=zeroValue103
 t182:=underlying346
 a182:=isAgg346
 z182:=sizeOf346
 v182:=zeroValue346
 t183:=underlying347
 a183:=isAgg347
 z183:=sizeOf347
 v183:=zeroValue347
 t218:=underlying375
 a218:=isAgg375
 z218:=sizeOf375
 v218:=zeroValue375
 t222:=underlying379
 a222:=isAgg379
 z222:=sizeOf379
 v222:=zeroValue379
 t228:=underlying389
 a228:=isAgg389
 z228:=sizeOf389
 v228:=zeroValue389
 t229:=underlying390
 a229:=isAgg390
 z229:=sizeOf390
 v229:=zeroValue390}
def bD:Go.Shelf.Ren:=⟨λ|194=>272|n=>n,λ|31=>23|9=>9|3=>3|4=>4|0=>0|n=>n,λ|n=>n⟩
def bB:Go.Proofs.Lays.n194 Qc bD:={
 mixed:=Xa
 f194:=func272.trans (congrArg some Xa)
 t0:=underlying0
 a0:=isAgg0
 z0:=sizeOf0
 v0:=zeroValue0
 t3:=underlying3
 a3:=isAgg3
 z3:=sizeOf3
 v3:=zeroValue3
 t4:=underlying4
 a4:=isAgg4
 z4:=sizeOf4
 v4:=zeroValue4
 t9:=underlying9
 a9:=isAgg9
 z9:=sizeOf9
 v9:=zeroValue9
 t31:=underlying23
 a31:=isAgg23
 z31:=sizeOf23
 v31:=zeroValue23}
end Go.Proofs
namespace Go.Vd
open Go.Proofs Go.RowKit
def Gh.base(G:Nat->Nat):Gh:={G:=G,G0:=G,dl:=λ_=>none,tb:=λ_=>none}
theorem Ia {P : Program} {f : FuncId} {F : List D → Option D} (c : ∃ fn, P.funcs[f]? = some fn ∧ fn.body.isSome = true ∧ (fn.name == "runtime.NumGoroutine") = false)
  (h : ∀ ds r, F ds = some r → ∀ (vs : List Value) (w : World) (G : Nat → Nat), vs.length = ds.length → (∀ (j : Nat) d v, ds[j]? = some d → vs[j]? = some v → Rep w (Gh.base G) d v) → (∀ b, w.heap.size ≤ b → G b = 0) →
   r.calmR = true ∧ Calls P f vs.toArray w fun e w' => ∃ v G', e = .returned v ∧ Below w.heap.size w w' ∧ (∀ b, w'.heap.size ≤ b → G' b = 0) ∧ (∀ b, b < w.heap.size → G' b = G b) ∧ Rep w' (Gh.base G') r v) : (Ac F).ok P f := by
 refine ⟨c, fun ds m m' fr _ => rfl, ?_⟩
 intro B w0 w m g fr ds vs r u hi ia hl n z
 simp only [Ac] at z
 split at z
 ·rename_i la
  rw [Qx] at z
  obtain ⟨r', y, z⟩ := z
  simp only [QU] at z
  obtain ⟨rfl, rfl⟩ := z
  have x : ∀ (j : Nat) d v, (ds.map D.un)[j]? = some d → vs[j]? = some v → Rep w (Gh.base g.G) d v := by
   intro j d v p t
   have o := Q9.1 la d (QS p)
   rw [Q7, Qx] at p
   obtain ⟨d', k, rfl⟩ := p
   exact (n j d' v k t).un.calm_to o (fun _ _ => rfl) (fun _ => Qe _)
  obtain ⟨q, o⟩ := h _ _ y vs w g.G (by rw [Qv]; exact hl) x hi.gz
  refine o.mono ?_
  rintro e w' ⟨v, G', rfl, hb, hz, ho, hR⟩
  have a : ∀ b, (g.glue w G').G b = G' b := by
   grind [Gh.glue]
  refine ⟨v, g.glue w G', rfl, hi.glue hb hz, GY.glue hi.gz hb, ?_, fun i s _ => s⟩
  exact hR.calmR_to q (fun _ _ => rfl) (fun b => by rw [a]; exact Qe _)
 ·cases z
def D6{P:Program}{f:FuncId}{F:List D->Option D}(y:(Ac F).ok P f){ds:List D}{r:D}(g:F ds=some r)(q:ds.all D.calm=true)(ba:ds.map D.un=ds){vs:List Value}{w:World}{G:Nat->Nat}
  (hl:vs.length=ds.length) (ea:∀(j:Nat) d v,ds[j]?=some d->vs[j]?=some v->Rep w (Gh.base G) d v) (n:∀b,w.heap.size<=b->G b=0):
  Calls P f vs.toArray w λe c=>∃v a,e= .returned v∧Below w.heap.size w c∧Rep c a r v:=by
 have t:GJ P w.heap.size w (λ_ _=>none) w (Gh.base G):=
  ⟨Below.refl _ _,Qe _,n,λ_ _=>rfl,λi b h=>XS,λi z b h=>XS,λi o d h=>Xe,λi e h=>Xe,λi z e e' b x x' h=>Xe,λi s p h=>Xe,λi z s p m p' b x x' h=>Xe⟩
 refine(y.run (fr:=[0]) (ds:=ds) (r:=r) (u:=[]) t (λi _=>⟨λ_=>rfl,rfl,rfl⟩) hl ea ?_).mono ?_
 ·grind [Ac]
 ·rintro e c ⟨v,a,rfl,k⟩;exact⟨v,a,rfl,k.inv.below,k.rep⟩
def H5{P:Program}{f:FuncId}{F:List D->Option D}(y:(Ac F).ok P f){ds:List D}{r:D}(hF:F ds=some r)(hp:ds.all (λd=>match d with| .str _| .int _ _| .bool _=>true|_=>false)=true)(w:World):
  Calls P f (ds.map plV).toArray w λe i=>∃v a,e= .returned v∧Below w.heap.size w i∧Rep i a r v:=by
 have u:∀d∈ds,d.calm=true∧d.un=d∧∀w g,Rep w g d (plV d):=by
  intro d p;have:=Q9.1 hp d p;cases d with
  |str s=>exact⟨rfl,rfl,λw g=> .str s⟩
  |int k n=>exact⟨rfl,rfl,λw g=> .int k n⟩
  |bool b=>exact⟨rfl,rfl,λw g=> .bool b⟩
  |_=>cases this
 refine D6 y hF (Q9.2 λd p=>(u d p).1) ?_ (G:=λ_=>0) U (λj d v p x=>?_) (λ_ _=>rfl)
 ·conv=>rhs;rw[←List.map_id ds]
  exact List.map_congr_left λd p=>(u d p).2.1
 ·grind
def Lr:∀l:List Bs,flat (strsD l)=strsD l
 |[]=>rfl
 |s::l=>by
  show(D.str s).cells++flat (strsD l)=_;rw[Lr l];rfl
def eI{w:World}{g:Gh}{nl:Bool}{t:Id}{l:List Bs}{v:Value}(h:Rep w g (.slice nl t (strsD l)) v):
  ∃i c,v= .slice i l.length c∧∀j s,l[j]?=some s->∃a,i=some a∧w.cell? (a.add j)=some (encStr s):=by
 rcases h.slice_inv with ⟨_,f,rfl⟩|⟨_,ad,n,c,sz,b,rfl,r,o,e,p,z,k,r7,x,r9⟩
 ·have:l=[]:=by cases l with|nil=>rfl|cons=>cases f
  subst this;exact⟨none,0,rfl,λj s h=>Xe⟩
 ·rw[AM]at r;subst r;refine⟨some ad,c,rfl,λj s u=>⟨ad,rfl,?_⟩⟩;have y:j<l.length:=(Qy.1 u).1;have m:sz=1:=(e (.str s) (Qp.2 ⟨s,QS u,rfl⟩)).symm;subst m;have q:=k j (.str s) (by rw[Lr];simp[strsD,u]);rw[p j O];cases hv:b j<;>rw[hv]at q<;>cases q;rfl
def LZ{w:World}{B e n b c:Nat}{ys:List Bs}{g:Gh}(h:w.ownsRow B e 1 (.slice (some ⟨b,0,none⟩) n c) n (ys.map encStr))(q:n<=g.G b):Rep w g (.slice false [] (strsD ys)) (.slice (some ⟨b,0,none⟩) n c):=by
 have r:ys.length=n:=by simpa using h.1
 have k:n<=c:=by
  rcases h.2 with ⟨f,_⟩|⟨a,cap,cur,x,_,_,m,_⟩
  ·cases f
  ·cases x;exact m
 refine .slice [] _ ⟨b,0,none⟩ n c 1 (λj=>encStr (ys.getD j [])) (by rw[AM,r]) k (λd p=>?_) (λj u=>?_) (λj u=>rfl) (λj d p=>?_) (λ_=>Xb) (λh=>absurd rfl h) (λd p=>?_)
 ·obtain⟨s,_,rfl⟩:=Qp.1 p;rfl
 ·have z:j<ys.length:=by omega
  exact h.cells rfl j _ (by simp[Qz,z])
 ·rw[Lr]at p;simp only[strsD,Q7,Qx]at p;obtain⟨s,i,rfl⟩:=p;have:ys.getD j []=s:=by simp[Qz,i]
  rw[this];exact .str s
 ·obtain⟨s,_,rfl⟩:=Qp.1 p;rfl
end Go.Vd
namespace Go.Vd
open Go.Proofs Go.RowKit Go.Sort Go.Shelf
def FT(z:Bs)(l:List Bs):List Bs:=l.filterMap λs=>if(Cc s z).2=true then some (Cc s z).1 else none
def SA(z s:Bs)(l:List Bs):FT z (s::l)=if(Cc s z).2=true then(Cc s z).1::FT z l else FT z l:=by
 grind [FT]
def aMf(w:World)(m:List Bs)(e:Ending)(i:World):Prop:=
 ∃v,e= .returned v∧Below w.heap.size w i∧((v= .slice none 0 0∧m=[])∨(m≠[]∧∃g cap,v= .slice (some ⟨g,0,none⟩) (Lib.compact (m.mergeSort λx y=>decide (x<=y))).length cap∧w.heap.size<=g∧g<i.heap.size∧
  i.ownsRow w.heap.size 9 1 v (Lib.compact (m.mergeSort λx y=>decide (x<=y))).length ((Lib.compact (m.mergeSort λx y=>decide (x<=y))).map encStr)))
def zU{w v:World}{g cap n nn q:Nat}{os:Array Obj}{ss:List (List UInt8)}(s:v.ownsRow w.heap.size 9 1 (.slice (some ⟨g,0,none⟩) n cap) n (ss.map encStr))(a:Below w.heap.size w v)(u:w.heap.size<=g)(r:ss.length=n)(c:ss≠[]):
  aMf w ss (.returned (.slice (some ⟨g,0,none⟩) (Lib.compact (ss.mergeSort λx y=>decide (x<=y))).length cap))
   (putRow encStr (Sort.ahead (grow (putRow encStr (Sort.ahead v nn) g 0 (ss.mergeSort λx y=>decide (x<=y)).toArray) os) q) g 0 (Lib.compact (ss.mergeSort λx y=>decide (x<=y))++Zy (n-(Lib.compact (ss.mergeSort λx y=>decide (x<=y))).length) []).toArray):=by
 have pa:(ss.mergeSort λx y=>decide (x<=y)).length=ss.length:=Qr ss;have ta:=Lib.compact_length_le (ss.mergeSort λx y=>decide (x<=y));subst r;rcases s.2 with ⟨e,_⟩|⟨g',m,cur,t,b,hb,h1,f,p,h4⟩
 ·cases e
 cases t;have i:=ownsRow_sorted (n:=nn) (os:=os) (ts:=ss.mergeSort λx y=>decide (x<=y)) pa b hb h1 f p;have o:=Lib.ownsRow_putRow (q:=q) (k:=(Lib.compact (ss.mergeSort λx y=>decide (x<=y))).length) (ys:=Lib.compact (ss.mergeSort λx y=>decide (x<=y))++Zy (ss.length-(Lib.compact (ss.mergeSort λx y=>decide (x<=y))).length) []) i Xc O;rw[List.take_left]at o;exact⟨_,rfl,Lib.below_putRow (a.grown (grownBy_sorted _) a.size (λj z=>by cases z;exact b)) u,.inr ⟨c,g,cap,rfl,u,(o.lt g rfl).2,o⟩⟩
def gI:(Tryz.prog.info? 9).map (λi=>(i.zero,i.size,i.bytes))=some (some (.string ByteArray.empty),1,16):=Xa
def eZ(v:Value):v.ownBlock=none∨v.ownBlock≠none:=Classical.em _
def B_{B:Nat}{w i:World}(h:Below B w i)(q:w.heap.size<=B)(row:Option Nat)(r:w.heap.size<=i.heap.size):w.grownBy i row:=⟨h.os,h.tape,h.output,r,λk s _=>h.block k O⟩
def EC{w s:World}{a:Addr}{v:Value}(m:Below w.heap.size w s)(h:w.cell? a=some v):s.cell? a=some v:=(m.cell (World.block_lt_of_cell? _ _ h)).trans h
def gY{α:Type}{l:List α}{j:Nat}{x:α}(h:l[j]?=some x):l.drop j=x::l.drop (j+1):=by
 obtain⟨u,rfl⟩:=Qy.1 h;exact List.drop_eq_getElem_cons u
def aUJ(w:World)(aa:Bs)(l:List Bs)(ao:Option Addr)(c:Nat)(hl:l.length<=2000)
  (ga:∀j s,l[j]?=some s->∃a,ao=some a∧w.cell? (a.add j)=some (encStr s))
  (r:∀s∈l,∀w,Calls Qc 271 #[encStr s,encStr aa] w λe w'=>e= .returned (.tuple #[encStr (Cc s aa).1,.bool (Cc s aa).2])∧Below w.heap.size w w'):
  Calls Qc 217 #[encStr aa,.slice ao l.length c] w (aMf w (FT aa l)):=by
 obtain⟨i0,hi,hx⟩:=Qx.1 gI;simp only[QU]at hx;obtain⟨ia,xa,ya⟩:=hx;have HC:Aside (∀j s,l[j]?=some s->∃a,ao=some a∧w.cell? (a.add j)=some (encStr s)):=ga;have H2:Aside (∀s∈l,∀w,Calls Qc 271 #[encStr s,encStr aa] w λe w'=>e= .returned (.tuple #[encStr (Cc s aa).1,.bool (Cc s aa).2])∧Below w.heap.size w w'):=r;clear ga r;generalize oa:encStr aa=vt at *;generalize hn:l.length=n at *
 go_enter func217,ntmps217
 go_wp2_with fail
 go_loopg [5,12] n (λg s5 ua wx=>∃(k:Nat)(ks:List Bs),k+g=n∧ua= .int .i64 k∧Aside (ks++FT aa (l.drop k)=FT aa l)∧ks.length<=k∧
  wx.ownsRow w.heap.size 9 1 s5 ks.length (ks.map encStr)∧Aside (s5= .slice none 0 0↔ks=[])∧Below w.heap.size w wx)
 case atStart=>exact⟨0,[],O,rfl,rfl,Qe _,World.ownsRow_nil _ _ _ _,ZT (λ_=>rfl) (λ_=>rfl),Below.refl _ _⟩
 case round=>
  obtain⟨k,ks,ta,rfl,HI,ma,ca,qa,fa⟩:=hrel;cases gk with
  |zero=>
   have ja:¬((k:Int)<(n:Int)):=O
   have HK:Aside (ks=FT aa l):=by
    have:=HI.out;rw[Q8 O]at this;show ks=_;simpa[FT]using this
   by_cases ra:ks=[]
   ·subst ra;have e0:u5= .slice none 0 0:=qa.out.2 rfl;subst e0;clear qa
    go_wp2_with (first
     |(go_at_call 268;refine(Any.slices_Sort_string_none aX none 0 _).mono ?_;rintro e w2 ⟨rfl,rfl⟩)
     |(go_at_call 272;refine(Any.slices_Compact_string_empty bB none 0 _).mono ?_;rintro e w3 ⟨rfl,rfl⟩))
    go_ret
    exact⟨_,rfl,fa,.inl ⟨rfl,HK.out.symm⟩⟩
   ·have da:u5≠ .slice none 0 0:=λe=>ra (qa.out.1 e)
    obtain⟨g0,h,rfl,u,z,ha,eb,ba,hH⟩:=Lib.holds_of_ownsRow ca da;have m:Calls Qc 268 #[.slice (some ⟨g0,0,none⟩) ks.length h] wr λe w'=>e= .returned (.tuple #[])∧∃n os,w'=grow (putRow encStr (Sort.ahead wr n) g0 0 (ks.mergeSort λx y=>decide (x<=y)).toArray) os:=Any.slices_Sort_string aX g0 0 h ks wr hH z O
    have o:∀nn os,Calls Qc 272 #[.slice (some ⟨g0,0,none⟩) ks.length h] (grow (putRow encStr (Sort.ahead wr nn) g0 0 (ks.mergeSort λx y=>decide (x<=y)).toArray) os) λe w'=>
      e= .returned (.slice (some ⟨g0,0,none⟩) (Lib.compact (ks.mergeSort λx y=>decide (x<=y))).length h)∧∃q,w'=putRow encStr (Sort.ahead (grow (putRow encStr (Sort.ahead wr nn) g0 0 (ks.mergeSort λx y=>decide (x<=y)).toArray) os) q) g0 0 (Lib.compact (ks.mergeSort λx y=>decide (x<=y))++Zy (ks.length-(Lib.compact (ks.mergeSort λx y=>decide (x<=y))).length) []).toArray:=λnn os=>by
     have pa:(ks.mergeSort λx y=>decide (x<=y)).length=ks.length:=Qr ks;have va:Go.Sort.Holds encStr (grow (putRow encStr (Sort.ahead wr nn) g0 0 (ks.mergeSort λx y=>decide (x<=y)).toArray) os) g0 0 (ks.mergeSort λx y=>decide (x<=y)).toArray:=
      holds_grow encStr _ os g0 0 _ (by simpa[putRow,mapBlock,Sort.ahead]using z) (holds_putRow encStr _ g0 0 _ _ (holds_ahead encStr wr nn g0 0 _ hH) U)
     have:=Any.slices_Compact_string bB g0 0 h (ks.mergeSort λx y=>decide (x<=y)) _ va O O;rw[pa]at this;exact this
    have X:Aside (wr.ownsRow w.heap.size 9 1 (.slice (some ⟨g0,0,none⟩) ks.length h) ks.length (ks.map encStr)∧Below w.heap.size w wr):=⟨ca,fa⟩;clear ca fa hH qa da
    go_wp2_with (first
     |(go_at_call 268;refine m.mono ?_;rintro e w2 ⟨rfl,nn,os,rfl⟩)
     |(go_at_call 272;refine(o _ _).mono ?_;rintro e w3 ⟨rfl,q,rfl⟩))
    go_ret
    rw[←HK.out];exact zU X.out.1 X.out.2 u rfl ra
  |succ g=>
   have ja:(k:Int)<(n:Int):=O
   obtain⟨s,hs⟩:∃s,l[k]?=some s:=⟨_,Qd O⟩;obtain⟨a,rfl,la⟩:=HC.out k s hs;have v:wr.cell? (a.add k)=some (encStr s):=EC fa la;have hd:Aside (l.drop k=s::l.drop (k+1)):=gY hs;have c2:=H2.out s (QS hs) wr;clear hs la;have ka:=fa.size;generalize t:encStr s=vs at *;cases hb:(Cc s aa).2 with
   |true=>
    rw[hb]at c2;generalize hp:(Cc s aa).1=p at c2;have d:Aside (FT aa (l.drop k)=p::FT aa (l.drop (k+1))):=by
     show _=_;rw[hd.out,SA,if_pos hb,hp]
    clear hp hb
    go_wp2_with (first
     |(go_at_call 271;refine c2.mono ?_;rintro e w2 ⟨rfl,na⟩;have sa:=na.size;have b:=ca.kept (B_ na (Qe _) none sa) (eZ _))
     |(at_builtin;refine wpList_append_own _ rfl _ _ 23 rfl w.heap.size 9 i0 (.string ByteArray.empty) 1 16 underlying23 hi ia xa ya rfl V _ _ _ rfl (b.alloc _) ⟨w2.heap.size,0,none⟩ 1 1 [encStr p] rfl rfl (cell_one_new _ _ _) (λx hx=>by simp at hx;subst hx;rfl) Xq O Xc ?_;intro v' w3 ea f i))
    go_roundg g
    case measure=>omega
    case rel=>exact⟨k+1,ks++[p],O,Xy,Yc,Xc,by simpa using ea,by show _↔_;rw[i];simp,
      ((fa.grown (B_ na (Qe _) none sa) ka (λj hj=>by cases hj)).alloc O _).grown f Xc (λj hj=>(b.lt j hj).1)⟩
   |false=>
    rw[hb]at c2;generalize hp:(Cc s aa).1=p at c2;have d:Aside (FT aa (l.drop k)=FT aa (l.drop (k+1))):=by
     show _=_;rw[hd.out,SA,if_neg (by rw[hb];decide)]
    clear hp hb
    go_wp2_with (first
     |(go_at_call 271;refine c2.mono ?_;rintro e w2 ⟨rfl,na⟩;have sa:=na.size;have b:=ca.kept (B_ na (Qe _) none sa) (eZ _)))
    go_roundg g
    case measure=>omega
    case rel=>exact⟨k+1,ks,O,Xy,XZ,O,b,qa,fa.grown (B_ na (Qe _) none sa) ka (λj hj=>by cases hj)⟩
abbrev pB(b:Nat):Value:= .pointer (some ⟨b,0,none⟩)
section
variable(w0:World)(bg bs bt b4:Nat)(l:List Tk)(ao:Option Addr)(c:Nat)
structure GL (w:World) (vg:Value) (xs:List Bs):Prop where
 own:w.ownsRow w0.heap.size 9 1 vg xs.length (xs.map encStr)
 g:w.heap[bg]?=some (.cells #[vg] 23 (0,0))
 s:w.heap[bs]?=some (.cells #[.slice ao l.length c] 31 (0,0))
 t:w.heap[bt]?=some (.cells #[.func (.func 267) #[] #[pB bg,pB bs,pB bt]] 325 (0,0))
 nl:vg= .slice none 0 0↔xs=[]
 r:w.heap[b4]?=some (.cells #[.slice none 0 0] 31 (0,0))
 below:Below w0.heap.size w0 w
theorem MW{w:World}{B e r n b:Nat}{v:Value}{xs:List Value}{cs:Array Value}{T:TypeId}{fr:Nat×Nat}(h:w.ownsRow B e r v n xs)(m:w.heap[b]?=some (.cells cs T fr))(x:T≠e):some b≠v.ownBlock:=by
 rcases h.2 with ⟨rfl,_⟩|⟨g,cap,cur,rfl,_,o,_⟩
 ·intro h;cases h
 ·intro h;simp only[Value.ownBlock,Qs]at h;subst h;rw[m]at o;simp only[Qs,Obj.cells.injEq]at o;exact x o.2.1
variable{w0 bg bs bt b4 l ao c}
def GL.app{w w3:World}{vg v':Value}{xs:List Bs}{o:Obj}{name:Bs}(u:w0.heap.size<=bg)(T:GL w0 bg bs bt b4 l ao c w vg xs)(j:w3.ownsRow w0.heap.size 9 1 v' (xs.length+1) (xs.map encStr++[encStr name]))(z:(w.alloc o).grownBy w3 vg.ownBlock)(na:v'= .slice none 0 0↔vg= .slice none 0 0∧(1:Nat)=0):
  ∃g cap,v'= .slice (some ⟨g,0,none⟩) (xs.length+1) cap∧w3.cell? ⟨bg,0,none⟩=some vg∧w3.frozen? ⟨bg,0,none⟩=false∧(w3.setCell ⟨bg,0,none⟩ v').cell? ⟨bs,0,none⟩=some (.slice ao l.length c)∧GL w0 bg bs bt b4 l ao c (w3.setCell ⟨bg,0,none⟩ v') v' (xs++[name]):=by
 have hl:∀{b:Nat} {cs:Array Value} {T:TypeId},w.heap[b]?=some (.cells cs T (0,0))->T≠9->w3.heap[b]?=some (.cells cs T (0,0)):=λ{b cs Ty} m hT=>by
  have da:b<w.heap.size:=(Qu.1 m).1;rw[z.block b Xc (MW T.own m hT),heap_alloc_old w o da];exact m
 have v:=hl T.g V;have s1:=hl T.s V;have t1:=hl T.t V;have r1:=hl T.r V;have i:v'≠ .slice none 0 0:=λe=>by have:=(na.1 e).2;omega
 rcases j.2 with ⟨h0,_⟩|⟨g,cap,cur,hv,n,m,q,y,p,h4⟩
 ·exact absurd h0 i
 have a:g≠bg:=λe=>by
  subst e;rw[v]at m;simp only[Qs,Obj.cells.injEq]at m;exact absurd m.2.1 V
 have x:∀k,k≠bg->(w3.setCell ⟨bg,0,none⟩ v').heap[k]?=w3.heap[k]?:=λk hk=>heap_setCell_other w3 ⟨bg,0,none⟩ k _ hk
 have ta:bs≠bg:=λe=>by have:=T.s;rw[e,T.g]at this;simp at this
 have d:bt≠bg:=λe=>by have:=T.t;rw[e,T.g]at this;simp at this
 have f:b4≠bg:=λe=>by have:=T.r;rw[e,T.g]at this;simp at this
 have s2:(w3.setCell ⟨bg,0,none⟩ v').heap[bs]?=some (.cells #[.slice ao l.length c] 31 (0,0)):=(x bs ta).trans s1;refine⟨g,cap,hv,by simp[World.cell?,v],by simp[World.frozen?,v],by simp[World.cell?,s2],⟨?_,?_,s2,(x bt d).trans t1,⟨λe=>absurd e i,λe=>by simp at e⟩,(x b4 f).trans r1,?_⟩⟩
 ·refine⟨U,.inr ⟨g,cap,cur,by rw[hv];simp,n,?_,Xw,y,p,by simpa using h4⟩⟩;rw[x g a];exact m
 ·rw[heap_setCell_same w3 bg 0 _ _ _ v];rfl
 ·exact((T.below.alloc T.below.size o).grown z (by have:=T.below.size;simp;omega) (λk hk=>(T.own.lt k hk).1)).setCell u _
def aCE(a:Addr)(n j:Nat):(a.add n).add j=a.add (n+j):=by
 unfold Addr.add;by_cases u:n=0
 ·subst u;simp
 ·grind
def cP(w0:World)(G:Nat->Nat)(l:List Tk)(r:Option Addr):Prop:=∀j k,l[j]?=some k->∃a q s t,r=some a∧w0.cell? (a.add (j*3))=some (encStr k.1)∧w0.cell? (a.add (j*3+1))=some (encStr k.2.1)∧w0.cell? (a.add (j*3+2))=some (.slice q s t)∧Rep w0 (Gh.base G) (.slice k.2.2.1 [] (Ar k.2.2.2)) (.slice q s t)
def cP.load{G:Nat->Nat}{w:World}{j:Nat}{k:Tk}(h:cP w0 G l ao)(m:Below w0.heap.size w0 w)(u:l[j]?=some k):∃a q s t,ao=some a∧w.cell? (a.add (j*3))=some (encStr k.1)∧w.cell? ⟨(a.add (j*3)).block,(a.add (j*3)).off+1,none⟩=some (encStr k.2.1)∧w.cell? ⟨(a.add (j*3)).block,(a.add (j*3)).off+2,none⟩=some (.slice q s t)∧Rep w0 (Gh.base G) (.slice k.2.2.1 [] (Ar k.2.2.2)) (.slice q s t):=by
 obtain⟨a,q,s,t,e,c1,p,o,x⟩:=h j k u;have v:∀i,i≠0->(⟨(a.add (j*3)).block,(a.add (j*3)).off+i,none⟩:Addr)=a.add (j*3+i):=λi hi=>by
  rw[←aCE];generalize a.add (j*3)=b;unfold Addr.add;rw[if_neg hi]
 refine⟨a,q,s,t,e,EC m c1,?_,?_,x⟩
 ·rw[v 1 V];exact EC m p
 ·rw[v 2 V];exact EC m o
def Lo(l:List Tk)(t:Tk)(s:Bs):BZ (t::l) s=if t.2.1=s∧t.1≠s then t.1::BZ l s else BZ l s:=by
 grind [BZ]
def GL.alloc{w:World}{v:Value}{xs:List Bs}(T:GL w0 bg bs bt b4 l ao c w v xs)(o:Obj):GL w0 bg bs bt b4 l ao c (w.alloc o) v xs:=
 have hl:∀{b:Nat} {x:Obj},w.heap[b]?=some x->(w.alloc o).heap[b]?=some x:=λ{b x} h=>by
  rw[heap_alloc_old w o (Qu.1 h).1];exact h
 ⟨T.own.alloc o,hl T.g,hl T.s,hl T.t,T.nl,hl T.r,T.below.alloc T.below.size o⟩
def aP1(hg:w0.heap.size<=bg)(hl:l.length<=1000){G:Nat->Nat}(hT:cP w0 G l ao)(name:Bs)(j:Bs->List Bs)(w:World)(vg:Value)(xs:List Bs)
  (b:∀t∈l,t.2.1=name->t.1≠name->∀w vg ys,GL w0 bg bs bt b4 l ao c w vg ys->ys.length+(j t.1).length<=1000->Calls Qc 267 #[encStr t.1,pB bg,pB bs,pB bt] w λe v=>e= .returned (.tuple #[])∧∃m,GL w0 bg bs bt b4 l ao c v m (ys++j t.1))
  (r:xs.length+1+((BZ l name).flatMap j).length<=1000) (T:GL w0 bg bs bt b4 l ao c w vg xs):
  Calls Qc 267 #[encStr name,pB bg,pB bs,pB bt] w λe v=>e= .returned (.tuple #[])∧∃m,GL w0 bg bs bt b4 l ao c v m (xs++name::(BZ l name).flatMap j):=by
 obtain⟨i0,hi,q⟩:=Qx.1 gI;simp only[QU]at q;obtain⟨ia,xa,ya⟩:=q;have C1:w.cell? ⟨bg,0,none⟩=some vg:=by simp[World.cell?,T.g]
 have C3:w.frozen? ⟨bg,0,none⟩=false:=by simp[World.frozen?,T.g]
 have ka:xs.length<1000:=O
 have wa:w0.heap.size<=w.heap.size:=T.below.size;have TT:Aside (GL w0 bg bs bt b4 l ao c w vg xs):=T;have HT:Aside (cP w0 G l ao):=hT;have HS:Aside (∀t∈l,t.2.1=name->t.1≠name->∀w vg ys,GL w0 bg bs bt b4 l ao c w vg ys->ys.length+(j t.1).length<=1000->Calls Qc 267 #[encStr t.1,pB bg,pB bs,pB bt] w λe v=>e= .returned (.tuple #[])∧∃m,GL w0 bg bs bt b4 l ao c v m (ys++j t.1)):=b;have HL:Aside (xs.length+1+((BZ l name).flatMap j).length<=1000):=r;have ca:=T.own;clear T r b hT
 go_enter func267,ntmps267
 go_wp2_with (first
  |(
   at_builtin;refine wpList_append_own _ rfl _ _ 23 rfl w0.heap.size 9 i0 (.string ByteArray.empty) 1 16 underlying23 hi ia xa ya rfl V _ _ _ rfl (ca.alloc _) ⟨w.heap.size,0,none⟩ 1 1 [encStr name] rfl rfl (cell_one_new _ _ _) (λx q=>by simp at q;subst q;rfl) Xq O Xc ?_;intro v' w3 s f i
   obtain⟨g2,n,rfl,D1,D2,D3,T2⟩:=TT.out.app hg s f i;have T3:Aside (GL w0 bg bs bt b4 l ao c (w3.setCell ⟨bg,0,none⟩ (.slice (some ⟨g2,0,none⟩) (xs.length+1) n)) (.slice (some ⟨g2,0,none⟩) (xs.length+1) n) (xs++[name])):=T2;clear i s f T2))
 go_loopg [14] l.length (λg p wx=>∃(k:Nat)(ys:List Bs)(vy:Value),k+g=l.length∧p= .int .i64 k∧Aside (ys++(BZ (l.drop k) name).flatMap j=xs++name::(BZ l name).flatMap j)∧Aside (GL w0 bg bs bt b4 l ao c wx vy ys))
 case atStart=>exact⟨0,xs++[name],_,O,rfl,by show _=_;simp,T3⟩
 case round=>
  obtain⟨k,ys,vy,ta,rfl,HI,TY⟩:=hrel;cases gk with
  |zero=>
   have ja:¬((k:Int)<(l.length:Int)):=O
   go_wp2_with fail
   go_end0
   refine⟨rfl,vy,?_⟩;have:=HI.out;rw[Q8 O]at this;rw[←this];simpa[BZ]using TY.out
  |succ g=>
   have ja:(k:Int)<(l.length:Int):=O
   obtain⟨t,hs⟩:∃t,l[k]?=some t:=⟨_,Qd O⟩;obtain⟨a,ro,rn,rc,rfl,c1,c2,c3,_⟩:=HT.out.load TY.out.below hs;have hd:Aside (l.drop k=t::l.drop (k+1)):=gY hs;have ga:t∈l:=QS hs;by_cases u:t.2.1=name
   ·by_cases y:t.1=name
    ·have d:Aside (BZ (l.drop k) name=BZ (l.drop (k+1)) name):=by
      show _=_;rw[hd.out,Lo,if_neg (λh=>h.2 y)]
     go_wp2_with fail
     go_roundg g
     case measure=>omega
     case rel=>exact⟨k+1,ys,vy,O,Xy,XZ,TY.out.alloc _⟩
    ·have d:Aside (BZ (l.drop k) name=t.1::BZ (l.drop (k+1)) name):=by
      show _=_;rw[hd.out,Lo,if_pos ⟨u,y⟩]
     have bb:∀o,Calls Qc 267 #[encStr t.1,pB bg,pB bs,pB bt] (wr.alloc o) λe v=>e= .returned (.tuple #[])∧∃m,GL w0 bg bs bt b4 l (some a) c v m (ys++j t.1):=λo=>
      HS.out t ga u y _ vy ys (TY.out.alloc o) (by
       have h3:=congrArg ZJ HI.out;rw[d.out]at h3;have h4:=HL.out;simp only[ZF,Qh,Qb]at h3;omega)
     have da:(t.1==name)=false:=by simpa using y
     have F:∀o,(wr.alloc o).cell? ⟨bt,0,none⟩=some (.func (.func 267) #[] #[pB bg,pB bs,pB bt]):=λo=>by simp[World.cell?,(TY.out.alloc o).t]
     go_wp2_with (go_at_call 267;refine(bb _).mono ?_;rintro e v ⟨rfl,vz,TZ⟩)
     go_roundg g
     case measure=>omega
     case rel=>exact⟨k+1,ys++j t.1,vz,O,Xy,Yc,TZ⟩
   ·have d:Aside (BZ (l.drop k) name=BZ (l.drop (k+1)) name):=by
     show _=_;rw[hd.out,Lo,if_neg (λh=>u h.1)]
    have z:(t.2.1==name)=false:=Xu
    go_wp2_with fail
    go_roundg g
    case measure=>omega
    case rel=>exact⟨k+1,ys,vy,O,Xy,XZ,TY.out.alloc _⟩
def GL.kept{w i:World}{v:Value}{xs:List Bs}{row:Option Nat}(T:GL w0 bg bs bt b4 l ao c w v xs)(h:w.grownBy i row)(n:∀(b:Nat) cs y,w.heap[b]?=some (.cells cs y (0,0))->y≠107->some b≠row)(q:∀k,row=some k->w0.heap.size<=k):GL w0 bg bs bt b4 l ao c i v xs:=by
 have hl:∀{b:Nat} {cs:Array Value} {T:TypeId},w.heap[b]?=some (.cells cs T (0,0))->T≠107->i.heap[b]?=some (.cells cs T (0,0)):=λ{b cs y} m x=>by
  rw[h.block b (Qu.1 m).1 (n b cs y m x)];exact m
 refine⟨T.own.kept h ?_,hl T.g V,hl T.s V,hl T.t V,T.nl,hl T.r V,T.below.grown h T.below.size q⟩;rcases T.own.2 with ⟨rfl,_⟩|⟨g,cap,cur,rfl,_,m,_⟩
 ·exact .inl rfl
 ·exact .inr (n g cur 9 m V)
def GL.sorted{w:World}{v:Value}{xs:List Bs}(T:GL w0 bg bs bt b4 l ao c w v xs)(q:xs≠[]):∃g cap,v= .slice (some ⟨g,0,none⟩) xs.length cap∧g<w.heap.size∧Go.Sort.Holds encStr w g 0 xs.toArray∧
  ∀nn os,GL w0 bg bs bt b4 l ao c (grow (putRow encStr (Sort.ahead w nn) g 0 (xs.mergeSort λx y=>decide (x<=y)).toArray) os) v (xs.mergeSort λx y=>decide (x<=y)):=by
 have i:v≠ .slice none 0 0:=λe=>q (T.nl.1 e)
 have a:(xs.mergeSort λx y=>decide (x<=y)).length=xs.length:=Qr xs;rcases T.own.2 with ⟨h0,_⟩|⟨g,cap,cur,hv,ea,m,u,f,p,h4⟩
 ·exact absurd h0 i
 refine⟨g,cap,hv,(Qu.1 m).1,Go.holds_of_block m (by simpa using h4),λnn os=>?_⟩;have z:=Go.grownBy_sorted (w:=w) (g:=g) (n:=nn) (os:=os) (xs.mergeSort λx y=>decide (x<=y)).toArray;have hl:∀{b:Nat} {cs:Array Value} {T:TypeId},w.heap[b]?=some (.cells cs T (0,0))->T≠9->(grow (putRow encStr (Sort.ahead w nn) g 0 (xs.mergeSort λx y=>decide (x<=y)).toArray) os).heap[b]?=some (.cells cs T (0,0)):=λ{b cs Ty} o j=>by
  rw[z.block b (Qu.1 o).1 (λe=>by
   have:=MW T.own o j;rw[hv]at this;exact this e)];exact o
 refine⟨?_,hl T.g V,hl T.s V,hl T.t V,⟨λe=>absurd e i,λe=>?_⟩,hl T.r V,T.below.grown z T.below.size (λk hk=>by cases hk;exact ea)⟩
 ·rw[hv,a];exact Go.ownsRow_sorted a ea m u f p
 ·grind
def aIF(o:w0.heap.size<=bg)(hl:l.length<=1000){G:Nat->Nat}(x:cP w0 G l ao){r:Bs->Nat}(T:Hm l r):∀(f:Nat)(name:Bs),l.length<=r name+f->∀(w:World)(v:Value)(xs:List Bs),GL w0 bg bs bt b4 l ao c w v xs->xs.length+(DU l f name).length<=1000->
  Calls Qc 267 #[encStr name,pB bg,pB bs,pB bt] w λe i=>e= .returned (.tuple #[])∧∃m,GL w0 bg bs bt b4 l ao c i m (xs++DU l f name)
 |0,name,hr,w,v,xs,h,hlen=>by
  have s:BZ l name=[]:=by
   cases hc:BZ l name with
   |nil=>rfl
   |cons a t=>have:=Ij T (show a∈BZ l name by rw[hc];exact Qo ..);omega
  have:=aP1 o hl x name (λ_=>[]) w v xs (λt j u y=>by
   have p:=T.up t j;have n:=T.top t j;rw[u]at p;omega) (by rw[s];simpa[DU]using hlen) h
  rw[s]at this;exact this
 |f+1,name,hr,w,v,xs,h,hlen=>by
  refine aP1 o hl x name (DU l f) w v xs (λt j u y w v ys hy b=>?_) (by simp only[DU,Qb]at hlen;omega) h;have p:=T.up t j;rw[u]at p;exact aIF o hl x T f t.1 O w v ys hy b
end
def aGb:(Tryz.prog.info? 107).map (λi=>(i.zero,i.size,i.bytes))=some (some (.agg #[.string ByteArray.empty,.string ByteArray.empty,.slice none 0 0]),3,56):=Xa
def tkV(p:Tk×Value):List Value:=[encStr p.1.1,encStr p.1.2.1,p.2]
def sQ(w:World)(a b c:Value)(t:TypeId):∀j u,[a,b,c][j]?=some u->(w.alloc (.cells #[a,b,c] t)).cell? ((⟨w.heap.size,0,none⟩:Addr).add j)=some u:=by
 intro j u z
 match j,z with
 |0,z=>simp at z;subst z;simp[Addr.add]
 |1,z=>simp at z;subst z;simp[Addr.add]
 |2,z=>simp at z;subst z;simp[Addr.add]
def R_{w p:World}{t b:Obj}(h:Below ((w.alloc t).alloc b).heap.size ((w.alloc t).alloc b) p):p.heap[w.heap.size]?=some t∧p.heap[w.heap.size+1]?=some b∧Below w.heap.size w p∧w.heap.size+2<=p.heap.size:=by
 have i:(w.alloc t).heap.size=w.heap.size+1:=QZ _;have e:((w.alloc t).alloc b).heap.size=w.heap.size+2:=(QZ _).trans (by rw[i]);have j:(w.alloc t).heap[w.heap.size]?=some t:=heap_alloc_new w t;have m:((w.alloc t).alloc b).heap[w.heap.size]?=some t:=by rw[heap_alloc_old _ _ O];exact j
 have f:((w.alloc t).alloc b).heap[w.heap.size+1]?=some b:=by have:=heap_alloc_new (w.alloc t) b;rwa [i]at this
 exact⟨by rw[h.block _ O];exact m,by rw[h.block _ O];exact f,(((Below.refl _ w).alloc (Qe _) _).alloc O _).trans (h.mono O),by have:=h.size;omega⟩
def D_{w:World}{b:Nat}{v:Value}{T:TypeId}(h:w.heap[b]?=some (.cells #[v] T (0,0))):w.cell? ⟨b,0,none⟩=some v:=by simp[World.cell?,h]
def mB{w:World}{b:Nat}{v:Value}{T:TypeId}(h:w.heap[b]?=some (.cells #[v] T (0,0))):w.frozen? ⟨b,0,none⟩=false:=by simp[World.frozen?,h]
def aP3(w:World)(l:List Tk)(r:Option Addr)(c:Nat)(name:Bs)(q:Int)
  (k:∀s,Below w.heap.size w s->Calls Qc 40 #[.agg #[.slice r l.length c],encStr name] s λe i=>e= .returned (.tuple #[.int .i64 q,.bool false])∧Below s.heap.size s i):
  Calls Qc 214 #[.agg #[.slice r l.length c],encStr name] w λe i=>e= .returned (.tuple #[.agg #[.slice r l.length c],.slice none 0 0,.int .i64 6])∧Below w.heap.size w i:=by
 go_enter func214,ntmps214
 go_wp2_with fail
 refine(k _ (((Below.refl _ w).alloc (Qe _) _).alloc U _)).mono ?_;rintro e p ⟨rfl,na⟩;obtain⟨b,z,n,m⟩:=R_ na;have g:p.cell? ⟨w.heap.size,0,none⟩=some (.slice r l.length c):=by simp[World.cell?,b]
 have o:p.cell? ⟨w.heap.size+1,0,none⟩=some (.slice none 0 0):=by simp[World.cell?,z]
 have y:p.frozen? ⟨w.heap.size+1,0,none⟩=false:=by simp[World.frozen?,z]
 have u:∀v,(p.setCell ⟨w.heap.size+1,0,none⟩ v).cell? ⟨w.heap.size+1,0,none⟩=some v:=λv=>World.cell?_setCell_same' _ _ _ (by rw[o];rfl)
 go_wp2_with fail
 refine bodyPost_ret (v:= .tuple #[.agg #[.slice r l.length c],.slice none 0 0,.int .i64 6]) (by simp[results,results214,go_sem,u]) rfl ⟨rfl,n.setCell U _⟩
def CF(l:List Tk)(gone:List Bs):List Tk:=l.filter λt=>!FV gone t.1
def Pu(t:Tk)(l:List Tk)(gone:List Bs):CF (t::l) gone=if FV gone t.1=true then CF l gone else t::CF l gone:=by
 grind [CF,FV]
def NK{w:World}{B e r n b:Nat}{v u:Value}{xs:List Value}(h:w.ownsRow B e r v n xs)(c:some b≠v.ownBlock):(w.setCell ⟨b,0,none⟩ u).ownsRow B e r v n xs:=by
 refine⟨h.1,?_⟩;rcases h.2 with h|⟨g,cap,cur,rfl,q,y,p⟩
 ·exact .inl h
 ·refine .inr ⟨g,cap,cur,rfl,q,?_,p⟩;rw[heap_setCell_other _ _ _ _ (λe=>c (congrArg some (show b=g from e.symm)))];exact y
def eG{w p:World}{l:List Tk}{r:Option Addr}{c:Nat}(b:p.heap[w.heap.size]?=some (.cells #[.slice r l.length c] 31 (0,0)))(z:p.heap[w.heap.size+1]?=some (.cells #[.slice none 0 0] 31 (0,0)))(n:Below w.heap.size w p)(m:w.heap.size+2<=p.heap.size):
  GL w p.heap.size w.heap.size (p.heap.size+1) (w.heap.size+1) l r c ((p.alloc (Obj.cells #[Value.slice none 0 0] 23)).alloc (Obj.cells #[Value.func (Fn.func 267) #[] #[pB p.heap.size,pB w.heap.size,pB (p.heap.size+1)]] 325)) (.slice none 0 0) []:=by
 have i:(p.alloc (Obj.cells #[Value.slice none 0 0] 23)).heap.size=p.heap.size+1:=QZ _;have q:∀o {k:Nat} {x:Obj},p.heap[k]?=some x->((p.alloc (Obj.cells #[Value.slice none 0 0] 23)).alloc o).heap[k]?=some x:=λo k x h=>by
  have s:=(Qu.1 h).1;rw[heap_alloc_old _ _ O,heap_alloc_old _ _ s];exact h
 refine⟨World.ownsRow_nil _ _ _ _,?_,q _ b,?_,⟨λ_=>rfl,λ_=>rfl⟩,q _ z,(n.alloc O _).alloc O _⟩
 ·rw[heap_alloc_old _ _ O];exact heap_alloc_new _ _
 ·have:=heap_alloc_new (p.alloc (Obj.cells #[Value.slice none 0 0] 23)) (Obj.cells #[Value.func (Fn.func 267) #[] #[pB p.heap.size,pB w.heap.size,pB (p.heap.size+1)]] 325)
  rwa [i]at this
def aP2(w:World)(G:Nat->Nat)(l:List Tk)(ao:Option Addr)(c:Nat)(name:Bs)(q:Int)(r:Bs->Nat)(hl:l.length<=900)(hT:cP w G l ao)(T:Hm l r)
  (ga:∀wx,Below w.heap.size w wx->Calls Qc 40 #[.agg #[.slice ao l.length c],encStr name] wx λe w'=>e= .returned (.tuple #[.int .i64 q,.bool true])∧Below wx.heap.size wx w')
  (aa:∀(wx:World)(v:Value)(ys:List Bs)(s:Bs),wx.ownsRow w.heap.size 9 1 v ys.length (ys.map encStr)->ys≠[]->ys.length<=1000->(v= .slice none 0 0↔ys=[])->Calls Qc 269 #[v,encStr s] wx λe w'=>e= .returned (.bool (FV ys s))∧Below wx.heap.size wx w'):
  Calls Qc 214 #[.agg #[.slice ao l.length c],encStr name] w λe w'=>∃gv lv ps,e= .returned (.tuple #[.agg #[lv],gv,.int .i64 0])∧Below w.heap.size w w'∧
   w'.ownsRow w.heap.size 9 1 gv (DU l l.length name).length (((DU l l.length name).mergeSort λx y=>decide (x<=y)).map encStr)∧gv≠ .slice none 0 0∧
   w'.ownsRow w.heap.size 107 3 lv ps.length (ps.flatMap tkV)∧(lv= .slice none 0 0↔ps=[])∧ps.map (·.1)=CF l ((DU l l.length name).mergeSort λx y=>decide (x<=y))∧
   ∀p∈ps,Rep w (Gh.base G) (.slice p.1.2.2.1 [] (Ar p.1.2.2.2)) p.2:=by
 obtain⟨i0,hi,hx⟩:=Qx.1 aGb;simp only[QU]at hx;obtain⟨ia,xa,ya⟩:=hx;have oa:=mM T l.length name;have va:DU l l.length name≠[]:=by cases l.length<;>simp[DU]
 go_enter func214,ntmps214
 go_wp2_with fail
 refine(ga _ (((Below.refl _ w).alloc (Qe _) _).alloc U _)).mono ?_;rintro e w2 ⟨rfl,na⟩;obtain⟨x1,x2,x3,x4⟩:=R_ na;clear na;have D0:((w2.alloc (Obj.cells #[Value.slice none 0 0] 23)).alloc (Obj.cells #[Value.nilFunc] 325)).heap[w2.heap.size+1]?=some (Obj.cells #[Value.nilFunc] 325):=by
  have:=heap_alloc_new (w2.alloc (Obj.cells #[Value.slice none 0 0] 23)) (Obj.cells #[Value.nilFunc] 325)
  rwa [show(w2.alloc (Obj.cells #[Value.slice none 0 0] 23)).heap.size=w2.heap.size+1 from QZ _]at this
 have D1:((w2.alloc (Obj.cells #[Value.slice none 0 0] 23)).alloc (Obj.cells #[Value.nilFunc] 325)).cell? ⟨w2.heap.size+1,0,none⟩=some Value.nilFunc:=D_ D0;have D2:((w2.alloc (Obj.cells #[Value.slice none 0 0] 23)).alloc (Obj.cells #[Value.nilFunc] 325)).frozen? ⟨w2.heap.size+1,0,none⟩=false:=mB D0
 go_wp2_with fail
 have T0:=eG x1 x2 x3 x4;refine(aIF O O hT T l.length name O _ _ _ T0 Xc).mono ?_;rintro e w3 ⟨rfl,v3,T3⟩;clear T0 D0 D1 D2;rw[QC]at T3;generalize hD:DU l l.length name=ds at *;obtain⟨g,cap,rfl,db,hH,T4⟩:=T3.sorted va;have E1:w3.cell? ⟨w2.heap.size,0,none⟩=some (.slice (some ⟨g,0,none⟩) ds.length cap):=D_ T3.g;have m:Calls Qc 268 #[.slice (some ⟨g,0,none⟩) ds.length cap] w3 λe w'=>e= .returned (.tuple #[])∧∃n os,w'=grow (putRow encStr (Sort.ahead w3 n) g 0 (ds.mergeSort λx y=>decide (x<=y)).toArray) os:=Any.slices_Sort_string aX g 0 cap ds w3 hH db O
 go_wp2_with fail
 refine m.mono ?_;rintro e w4 ⟨rfl,nn,os,bb⟩;replace T4:=T4 nn os;rw[←bb]at T4;clear m bb T3 hH E1;have pa:(ds.mergeSort λx y=>decide (x<=y)).length=ds.length:=Qr ds;have ba:(ds.mergeSort λx y=>decide (x<=y))≠[]:=λe=>by rw[e]at pa;exact va (Zc pa.symm)
 generalize ua:(ds.mergeSort λx y=>decide (x<=y))=ss at *;have E2:w4.cell? ⟨w.heap.size,0,none⟩=some (.slice ao l.length c):=D_ T4.s;have HT:Aside (cP w G l ao):=hT;have H2:Aside (∀(wx:World)(v:Value)(ys:List Bs)(s:Bs),wx.ownsRow w.heap.size 9 1 v ys.length (ys.map encStr)->ys≠[]->ys.length<=1000->(v= .slice none 0 0↔ys=[])->Calls Qc 269 #[v,encStr s] wx λe w'=>e= .returned (.bool (FV ys s))∧Below wx.heap.size wx w'):=aa;clear hT aa ga;generalize sa:ds.length=n at *
 go_wp2_with fail
 go_loopg [11,32] l.length (λgg i za wx=>∃(k:Nat)(ps:List (Tk×Value)),k+gg=l.length∧za= .int .i64 k∧ps.length<=k∧Aside (ps.map (·.1)++CF (l.drop k) ss=CF l ss)∧
  wx.ownsRow w.heap.size 107 3 i ps.length (ps.flatMap tkV)∧Aside (i= .slice none 0 0↔ps=[])∧Aside (∀p∈ps,Rep w (Gh.base G) (.slice p.1.2.2.1 [] (Ar p.1.2.2.2)) p.2)∧
  Aside (GL w w2.heap.size w.heap.size (w2.heap.size+1) (w.heap.size+1) l ao c wx (.slice (some ⟨g,0,none⟩) n cap) ss))
 case atStart=>exact⟨0,[],O,rfl,Qe _,rfl,World.ownsRow_nil _ _ _ _,ZT (λ_=>rfl) (λ_=>rfl),(by show ∀p∈([]:List (Tk×Value)),_;intro p hp;cases hp),T4⟩
 case round=>
  obtain⟨k,ps,ta,rfl,ra,HI,ca,qa,HR,TY⟩:=hrel;have wa:=TY.out.below.size;cases gk with
  |zero=>
   have ja:¬((k:Int)<(l.length:Int)):=O
   have G1:wr.cell? ⟨w2.heap.size,0,none⟩=some (.slice (some ⟨g,0,none⟩) n cap):=D_ TY.out.g;have G2:wr.cell? ⟨w.heap.size+1,0,none⟩=some (.slice none 0 0):=D_ TY.out.r;have G3:wr.frozen? ⟨w.heap.size+1,0,none⟩=false:=mB TY.out.r;have G0:w.heap.size+1≠w2.heap.size:=O
   have G4:∀v,(wr.setCell ⟨w.heap.size+1,0,none⟩ v).cell? ⟨w2.heap.size,0,none⟩=some (.slice (some ⟨g,0,none⟩) n cap):=λv=>(World.cell?_setCell_other _ _ _ _ (λe=>G0 (congrArg Addr.block e))).trans G1
   have G5:∀v,(wr.setCell ⟨w.heap.size+1,0,none⟩ v).cell? ⟨w.heap.size+1,0,none⟩=some v:=λv=>World.cell?_setCell_same' _ _ _ (by rw[G2];rfl)
   obtain⟨lo,ln,lc,rfl⟩:∃lo ln lc,u11= .slice lo ln lc:=by
    rcases ca.2 with ⟨h,_⟩|⟨_,_,_,h,_⟩<;>exact⟨_,_,_,h⟩
   go_wp2_with fail
   go_region
   all_goals (
    go_wp2_with fail
    have fa:=NK (u:= .slice lo ln lc) ca (MW ca TY.out.r V);have ha:=NK (u:= .slice lo ln lc) TY.out.own (MW TY.out.own TY.out.r V);have z:=TY.out.below.setCell (p:=⟨w.heap.size+1,0,none⟩) U (.slice lo ln lc);refine bodyPost_ret (v:= .tuple #[.agg #[.slice lo ln lc],.slice (some ⟨g,0,none⟩) n cap,.int .i64 0]) (by simp[results,results214,go_sem,G5]) rfl ⟨_,_,ps,rfl,⟨z.os,z.tape,z.output,z.size,z.block⟩,?_,U,fa,qa.out,?_,HR.out⟩
    ·rw[pa]at ha;rw[hD,ua,sa];exact ha
    ·have:=HI.out;rw[Q8 O]at this;rw[hD,ua,←this];simp[CF])
  |succ gg=>
   have ja:(k:Int)<(l.length:Int):=O
   obtain⟨t,hs⟩:∃t,l[k]?=some t:=⟨_,Qd O⟩;obtain⟨a,ro,rn,rc,rfl,c1,c2,c3,c4⟩:=HT.out.load TY.out.below hs;have hd:Aside (l.drop k=t::l.drop (k+1)):=gY hs;have ma:∀o,Calls Qc 269 #[.slice (some ⟨g,0,none⟩) n cap,encStr t.1] (wr.alloc o) λe w'=>e= .returned (.bool (FV ss t.1))∧Below (wr.alloc o).heap.size (wr.alloc o) w':=λo=>
    H2.out _ _ ss t.1 (TY.out.alloc o).own ba O ⟨λe=>by simp at e,λe=>absurd e ba⟩
   have E3:∀o,(wr.alloc o).cell? ⟨w2.heap.size,0,none⟩=some (.slice (some ⟨g,0,none⟩) n cap):=λo=>D_ (TY.out.alloc o).g
   have C4:Aside (Rep w (Gh.base G) (.slice t.2.2.1 [] (Ar t.2.2.2)) (.slice ro rn rc)):=c4;clear c4 hs
   go_wp2_with fail
   refine(ma _).mono ?_;rintro e w5 ⟨rfl,ha⟩;generalize ho:Obj.cells #[encStr t.1,encStr t.2.1,.slice ro rn rc] 107 (0,0)=ob at *;have ka:=ha.size;have cb:(wr.alloc ob).heap.size=wr.heap.size+1:=QZ _;have T5:Aside (GL w w2.heap.size w.heap.size (w2.heap.size+1) (w.heap.size+1) l (some a) c w5 (.slice (some ⟨g,0,none⟩) n cap) ss):=
    (TY.out.alloc ob).kept (B_ ha (Qe _) none ka) (λ_ _ _ _ _ h=>Xd) (λ_ h=>Xd)
   have f:=(ca.alloc ob).kept (B_ ha (Qe _) none ka) (eZ _);have F0:w5.heap[wr.heap.size]?=some ob:=by rw[ha.block _ O];exact heap_alloc_new _ _
   subst ho;have F1:w5.cell? ⟨wr.heap.size,0,none⟩=some (encStr t.1):=X9
   have F2:w5.cell? ⟨wr.heap.size,1,none⟩=some (encStr t.2.1):=X9
   have F3:w5.cell? ⟨wr.heap.size,2,none⟩=some (.slice ro rn rc):=X9
   clear ma E3 ha F0;cases hb:FV ss t.1 with
   |true=>
    have d:Aside (CF (l.drop k) ss=CF (l.drop (k+1)) ss):=by show _=_;rw[hd.out,Pu,if_pos hb]
    clear hb
    go_wp2_with fail
    go_roundg gg
    case measure=>omega
    case rel=>exact⟨k+1,ps,O,Xy,O,XZ,f,qa,HR,T5⟩
   |false=>
    have d:Aside (CF (l.drop k) ss=t::CF (l.drop (k+1)) ss):=by show _=_;rw[hd.out,Pu,if_neg (by rw[hb];decide)]
    clear hb
    go_wp2_with (at_builtin;refine wpList_append_own _ rfl _ _ 29 rfl w.heap.size 107 i0 (.agg #[.string ByteArray.empty,.string ByteArray.empty,.slice none 0 0]) 3 56 underlying29 hi ia xa ya rfl V _ _ _ rfl (f.alloc _) ⟨w5.heap.size,0,none⟩ 1 1 [encStr t.1,encStr t.2.1,.slice ro rn rc] rfl rfl (sQ _ _ _ _ _) (λx hx=>by simp at hx;rcases hx with rfl|rfl|rfl<;>rfl) Xq O Xc ?_;intro v' w6 ea da la)
    have ab:(w5.alloc (Obj.cells #[encStr t.1,encStr t.2.1,.slice ro rn rc] 107 (0,0))).heap.size=w5.heap.size+1:=QZ _;have T6:Aside (GL w w2.heap.size w.heap.size (w2.heap.size+1) (w.heap.size+1) l (some a) c w6 (.slice (some ⟨g,0,none⟩) n cap) ss):=
     (T5.out.alloc _).kept da (λb cs Ty hb hT=>MW (f.alloc _) hb hT) (λj hj=>(f.lt j hj).1)
    go_roundg gg
    case measure=>omega
    case rel=>exact⟨k+1,ps++[(t,.slice ro rn rc)],O,Xy,Xc,Yc,by simpa[tkV]using ea,by show _↔_;rw[la];simp,(by
      show ∀p∈_,_;intro p hp;rcases QH.1 hp with h|h
      ·exact HR.out p h
      ·rw[Zg.1 h];exact C4.out),T6⟩
def FK{w s:World}{G:Nat->Nat}{d:D}{v:Value}(h:Rep w (Gh.base G) d v)(o:d.calm=true)(x:∀b,w.heap.size<=b->G b=0)(m:Below w.heap.size w s){G':Nat->Nat}(q:∀b,b<w.heap.size->G b<=G' b):Rep s (Gh.base G') d v:=
 h.calm_to o (λp g=>by
  have y:p.block<w.heap.size:=by
   grind [Gh.base]
  exact m.cell y) (λb=>by
  rcases ZR b w.heap.size with h|h
  ·exact q b h
  ·show G b<=_;rw[x b h];exact Qf _)
def pI{w:World}{G:Nat->Nat}{nl:Bool}{t:Id}{l:List Tk}{v:Value}(h:Rep w (Gh.base G) (.slice nl t (AI l)) v):∃r c,v= .slice r l.length c∧cP w G l r:=by
 rcases h.slice_inv with ⟨_,f,rfl⟩|⟨_,ad,n,c,sz,b,rfl,g,o,e,r4,r5,r6,r7,r8,r9⟩
 ·have:l=[]:=by cases l with|nil=>rfl|cons=>cases f
  subst this;exact⟨none,0,rfl,λj s h=>Xe⟩
 ·rw[show(AI l).length=l.length from Qv ..]at g;subst g;refine⟨some ad,c,rfl,λj k u=>?_⟩;have y:j<l.length:=(Qy.1 u).1;have ka:sz=3:=(e (O1 k) (Qp.2 ⟨k,QS u,rfl⟩)).symm;subst ka;have x:l[j]=k:=(Qy.1 u).2;have a:∀i,i<3->(flat (AI l))[j*3+i]?=(O1 k).cells[i]?:=λi hi=>by
   rw[Ea e (by simpa[AI]using y) hi];simp[AI,x]
  have e0:=(r6 _ _ ((a 0 V).trans rfl)).str_inv;have z:=(r6 _ _ ((a 1 V).trans rfl)).str_inv;have m:=r6 _ _ ((a 2 V).trans rfl);obtain⟨q,p,ev,_⟩:=m.len_slice;rw[ev]at m;exact⟨ad,q,_,p,rfl,by rw[r4 _ O];exact congrArg some e0,by rw[r4 _ O];exact congrArg some z,by rw[r4 _ O,ev],m⟩
def PK{w:World}{g:Gh}:∀(ps:List (Tk×Value))(_:∀p∈ps,Rep w g (.slice p.1.2.2.1 [] (Ar p.1.2.2.2)) p.2)(j:Nat)(d:D),(flat (AI (ps.map (·.1))))[j]?=some d->∃v,(ps.flatMap tkV)[j]?=some v∧v.oneCell'=true∧Rep w g d v
 |[],_,j,d,h=>by simp[AI,flat]at h
 |p::ps,hp,j,d,h=>by
  have e:flat (AI ((p::ps).map (·.1)))=[D.str p.1.1,D.str p.1.2.1,D.slice p.1.2.2.1 [] (Ar p.1.2.2.2)]++flat (AI (ps.map (·.1))):=rfl;rw[e]at h;rw[ZF];have n:=hp p (Qo ..)
  match j,h with
  |0,h=>cases h;exact⟨_,rfl,rfl,.str _⟩
  |1,h=>cases h;exact⟨_,rfl,rfl,.str _⟩
  |2,h=>
   cases h;refine⟨p.2,rfl,?_,n⟩;obtain⟨_,_,ev,_⟩:=n.len_slice;rw[ev];rfl
  |j+3,h=>exact PK ps (λq z=>hp q (Qt _ z)) j d h
def aFv{w:World}{B e:Nat}{lv:Value}{ps:List (Tk×Value)}{g:Gh}(h:w.ownsRow B e 3 lv ps.length (ps.flatMap tkV))(na:lv= .slice none 0 0↔ps=[])(y:∀p∈ps,Rep w g (.slice p.1.2.2.1 [] (Ar p.1.2.2.2)) p.2)(q:∀b,lv.ownBlock=some b->ps.length*3<=g.G b):Rep w g (.slice (decide (ps.map (·.1)=[])) [] (AI (ps.map (·.1)))) lv:=by
 rcases h.2 with ⟨f,hz⟩|⟨b,c,cur,x,_,_,o,_⟩
 ·have:=na.1 f;subst this;subst f;exact .nils _
 ·have i:ps≠[]:=λe=>by rw[na.2 e]at x;cases x
  have m:=q b (by rw[x];rfl);rw[decide_eq_false (by simpa using i)];have t:=h;subst x;refine .slice [] _ ⟨b,0,none⟩ ps.length c 3 (λj=>(ps.flatMap tkV).getD j .nilFunc) (by simp[AI]) o (λd r=>?_) (λj u=>?_) (λj u=>?_) (λj d r=>?_) (λ_=>Xb) (λh=>absurd rfl h) (λd r=>?_)
  ·obtain⟨s,_,rfl⟩:=Qp.1 r;rfl
  ·have z:j<(ps.flatMap tkV).length:=by rw[h.1];exact u
   exact t.cells rfl j _ (by simp only[Qz];rw[Qd z];rfl)
  ·have k:j<(flat (AI (ps.map (·.1)))).length:=by
    rw[Ce (sz:=3) (λd r=>by obtain⟨s,_,rfl⟩:=Qp.1 r;rfl)];simpa[AI]using u
   obtain⟨v,l,n,_⟩:=PK ps y j _ (Qd k);simp only[Qz,l,Q4];exact n
  ·obtain⟨v,l,_,a⟩:=PK ps y j d r;simp only[Qz,l,Q4];exact a
  ·obtain⟨s,_,rfl⟩:=Qp.1 r;rfl
def Sg(s z:Bs):(C6 s z).length<=s.length:=by
 grind [C6]
def eN(l:List Bs):List Bs:=l.mergeSort λx y=>decide (x<=y)
def nC(z:Bs)(l:List Bs):List Bs:=Lib.compact (eN (FT z l))
def V8(p:Bs×Bool×List Bs):List D:=[.str p.1,.slice p.2.1 [] (strsD p.2.2)]
theorem pL{a b:List Bs}(h:strsD a=strsD b):a=b:=by
 unfold strsD at h;exact List.map_inj_right (λx y e=>by cases e;rfl) |>.1 h
def qK(x y)(h:V8 x=V8 y):x=y:=by
 grind [V8,pL]
def RR:List D->Option D:=FX V8 (λp=>p.2.2.length<=2000∧∀s∈p.2.2,s.length<=1000000) λp=> .slice (decide (FT p.1 p.2.2=[])) [] (strsD (nC p.1 p.2.2))
def aHV{z:Bs}{nl:Bool}{l:List Bs}(h:l.length<=2000)(r:∀s∈l,s.length<=1000000):RR [.str z,.slice nl [] (strsD l)]=some (.slice (decide (FT z l=[])) [] (strsD (nC z l))):=
 BV (mk:=V8) (a:=(z,nl,l)) qK ⟨h,r⟩
def aRv:Kq RR 217:=by
 refine Ia ⟨_,func217,Xa,Xa⟩ λds r y vs w G hl n x=>⟨?_,?_⟩
 ·obtain⟨p,_,_,rfl⟩:=Dc y;rfl
 ·obtain⟨⟨z,nl,l⟩,⟨j,i⟩,rfl,rfl⟩:=Dc y;simp only at j i
  match vs,hl with
  |[v0,v1],_=>
   have e0:=(n 0 _ v0 rfl rfl).str_inv;subst e0;obtain⟨ao,c,rfl,q⟩:=eI (n 1 _ v1 rfl rfl);refine(aUJ w z l ao c j q (λs a w=>?_)).mono ?_
   ·refine(H5 aSL (aHs s z (i s a) (Sg s z)) rfl w).mono ?_;rintro e w' ⟨v,g',rfl,m,hR⟩;refine⟨?_,m⟩;obtain⟨us,rfl,u,k⟩:=hR.tup_inv
    match us,u with
    |[u0,u1],_=>
     rw[(k 0 _ u0 rfl rfl).str_inv,(k 1 _ u1 rfl rfl).bool_inv]
   ·rintro e w' ⟨v,rfl,m,⟨rfl,hk⟩|⟨hk,g,cap,rfl,o,f,t⟩⟩
    ·refine⟨_,G,rfl,m,λb h=>x b (QG m.size h),λ_ _=>rfl,?_⟩;have e:nC z l=[]:=by unfold nC eN;rw[hk,List.mergeSort_nil];rfl
     rw[e,decide_eq_true hk];exact .nils _
    ·refine⟨_,λb=>if b<w.heap.size then G b else if b=g then(nC z l).length else 0,rfl,m,λb h=>?_,λb h=>if_pos h,?_⟩
     ·grind
     ·rw[decide_eq_false hk];exact LZ t (by simp only[Gh.base];rw[if_neg O,if_pos trivial];exact Qe _)
def Ck(l:List Tk)(s:Bs):List Bs:=eN (DU l l.length s)
def Sr(p:Bool×List Tk×Bs):List D:=[.agg [.slice p.1 [] (AI p.2.1)],.str p.2.2]
def Sq(x y)(h:Sr x=Sr y):x=y:=by
 grind [Sr,Vr]
def H4(p:Bool×List Tk×Bs):D:=if AV p.2.1 p.2.2=false then .tup [.agg [.slice p.1 [] (AI p.2.1)],.slice true [] (strsD []),.int .i64 6]
 else .tup [.agg [.slice (decide (CF p.2.1 (Ck p.2.1 p.2.2)=[])) [] (AI (CF p.2.1 (Ck p.2.1 p.2.2)))],.slice false [] (strsD (Ck p.2.1 p.2.2)),.int .i64 0]
def Rm:List D->Option D:=FX Sr (λp=>p.2.1.length<=900∧∃r,Hm p.2.1 r) H4
def aHW{nl:Bool}{l:List Tk}{s:Bs}{r:Bs->Nat}(h:l.length<=900)(n:Hm l r)(v:AV l s=false):Rm [.agg [.slice nl [] (AI l)],.str s]=some (.tup [.agg [.slice nl [] (AI l)],.slice true [] (strsD []),.int .i64 6]):=by
 have:=BV (mk:=Sr) (ok:=λp=>p.2.1.length<=900∧∃r,Hm p.2.1 r) (res:=H4) (a:=(nl,l,s)) Sq ⟨h,r,n⟩;rw[show H4 (nl,l,s)=_ from if_pos v]at this;exact this
def aD4{nl:Bool}{l:List Tk}{s:Bs}{r:Bs->Nat}(h:l.length<=900)(n:Hm l r)(v:AV l s=true):Rm [.agg [.slice nl [] (AI l)],.str s]=some (.tup [.agg [.slice (decide (CF l (Ck l s)=[])) [] (AI (CF l (Ck l s)))],.slice false [] (strsD (Ck l s)),.int .i64 0]):=by
 have:=BV (mk:=Sr) (ok:=λp=>p.2.1.length<=900∧∃r,Hm p.2.1 r) (res:=H4) (a:=(nl,l,s)) Sq ⟨h,r,n⟩;rw[show H4 (nl,l,s)=_ from if_neg (by rw[v];decide)]at this;exact this
def aRw:Kq Rm 214:=by
 refine Ia ⟨_,func214,Xa,Xa⟩ λds r hF vs w G hl ea ca=>⟨?_,?_⟩
 ·obtain⟨p,_,_,rfl⟩:=Dc hF;unfold H4;split<;>rfl
 ·obtain⟨⟨nl,l,s⟩,⟨ba,rk,hT⟩,rfl,rfl⟩:=Dc hF;simp only at ba hT
  match vs,hl with
  |[v0,v1],_=>
   have e1:=(ea 1 _ v1 rfl rfl).str_inv;subst e1;have ua:=ea 0 _ v0 rfl rfl;obtain⟨us,rfl,ja,z,hu⟩:=aJ ua
   match us,ja with
   |[u0],_=>
    have qa:=hu 0 _ u0 rfl rfl;obtain⟨ao,c,rfl,ia⟩:=pI qa;have ga:∀wx,Below w.heap.size w wx->Calls Qc 40 #[.agg #[.slice ao l.length c],encStr s] wx λe w'=>e= .returned (.tuple #[.int .i64 (HG l s:Int),.bool (AV l s)])∧Below wx.heap.size wx w':=λwx hb=>by
     refine(D6 (vs:=[.agg #[.slice ao l.length c],encStr s]) (G:=G) yG (Ny (nl:=nl) (t:=[]) (l:=l) (s:=s) O) rfl rfl rfl (λj d v hd hv=>?_) (λb h=>ca b (QG hb.size h))).mono ?_
     ·match j,hd,hv with
      |0,hd,hv=>cases hd;cases hv;exact FK ua rfl ca hb (λ_ _=>Qe _)
      |1,hd,hv=>cases hd;cases hv;exact .str _
     ·rintro e w' ⟨v,g',rfl,wa,hR⟩;refine⟨?_,wa⟩;obtain⟨us,rfl,ja,hu⟩:=hR.tup_inv
      match us,ja with
      |[u0,u1],_=>rw[(hu 0 _ u0 rfl rfl).int_inv,(hu 1 _ u1 rfl rfl).bool_inv]
    cases hf:AV l s with
    |false=>
     rw[hf]at ga;refine(aP3 w l ao c s _ ga).mono ?_;rintro e w' ⟨rfl,hb⟩;refine⟨_,G,rfl,hb,λb h=>ca b (QG hb.size h),λ_ _=>rfl,?_⟩;rw[show H4 (nl,l,s)=_ from if_pos hf];refine .tup _ [_,_,_] rfl (λj d v hd hv=>?_)
     match j,hd,hv with
     |0,hd,hv=>cases hd;cases hv;exact FK ua rfl ca hb (λ_ _=>Qe _)
     |1,hd,hv=>cases hd;cases hv;exact .nils _
     |2,hd,hv=>cases hd;cases hv;exact .int _ _
    |true=>
     rw[hf]at ga;have aa:∀(wx:World)(v:Value)(ys:List Bs)(n:Bs),wx.ownsRow w.heap.size 9 1 v ys.length (ys.map encStr)->ys≠[]->ys.length<=1000->(v= .slice none 0 0↔ys=[])->Calls Qc 269 #[v,encStr n] wx λe w'=>e= .returned (.bool (FV ys n))∧Below wx.heap.size wx w':=λwx v ys n ho fa ta na=>by
      obtain⟨g,cap,rfl,o,f,_⟩:=Lib.holds_of_ownsRow ho (λe=>fa (na.1 e));refine(D6 (vs:=[.slice (some ⟨g,0,none⟩) ys.length cap,encStr n]) (G:=λb=>if b=g then ys.length else 0) aSM (aHt (nl:=false) (l:=ys) n O) rfl rfl rfl (λj d v hd hv=>?_) (λb h=>if_neg O)).mono ?_
      ·match j,hd,hv with
       |0,hd,hv=>cases hd;cases hv;exact LZ ho (by simp[Gh.base])
       |1,hd,hv=>cases hd;cases hv;exact .str _
      ·rintro e w' ⟨v,g',rfl,wa,hR⟩;exact⟨by rw[hR.bool_inv],wa⟩
     refine(aP2 w G l ao c s _ rk ba ia hT ga aa).mono ?_;rintro e w' ⟨gv,lv,ps,rfl,hb,a,q,i,u,la,x⟩;have pa:(Ck l s).length=(DU l l.length s).length:=Qr _;rw[←pa]at a;obtain⟨gb,cap,rfl,o,f,_⟩:=Lib.holds_of_ownsRow a q;have da:=i.lt;rw[show H4 (nl,l,s)=_ from if_neg (show ¬AV l s=false by rw[hf];decide)];have fa:lv.ownBlock≠some gb:=λe=>by
      rcases a.2 with ⟨h0,_⟩|⟨g',m,cur,hv,_,hh,_⟩
      ·cases h0
      ·grind [MW]
     have ka:=hb.size
     let G':Nat->Nat:=λb=>if b<w.heap.size then G b else if b=gb then(Ck l s).length else if some b=lv.ownBlock then ps.length*3 else 0
     have y:∀b,b<w.heap.size->G' b=G b:=λb h=>if_pos h
     refine⟨_,G',rfl,hb,λb h=>?_,y,?_⟩
     ·grind
     ·refine .tup _ [_,_,_] rfl (λj d v hd hv=>?_)
      match j,hd,hv with
      |0,hd,hv=>
       cases hd;cases hv;refine .agg _ [lv] rfl (λv hv=>?_) (λj d v hd hv=>?_)
       ·rw[Zg.1 hv];rcases i.2 with ⟨h,_⟩|⟨_,_,_,h,_⟩<;>rw[h]<;>rfl
       ·match j,hd,hv with
        |0,hd,hv=>
         cases hd;cases hv;have:=aFv (g:=Gh.base G') i u (λp hp=>FK (x p hp) rfl ca hb (λb h=>Nat.le_of_eq (y b h).symm)) (λb k=>by
          show _<=(if _ then _ else _);rw[if_neg (by have:=(da b k).1;omega),if_neg (λe=>fa (by rw[k,e])),if_pos k.symm];exact Qe _)
         rw[la]at this;exact this
      |1,hd,hv=>
       cases hd;cases hv;exact LZ a (by
        show _<=(if _ then _ else _);rw[if_neg O,if_pos rfl];exact Qe _)
      |2,hd,hv=>cases hd;cases hv;exact .int _ _
end Go.Vd
namespace Go.Vd
open Go.Proofs Go.RowKit
def aBp:=y2 f256 [] []
def aBx:=y2 f104 [] []
def aBt:=y2 f172 [] []
def aBs:=y2 f202 [] []
end Go.Vd
namespace Go.Vd
abbrev Kt:=List UInt8
abbrev GU(a b:Kt):Bool:=Op.bytesLess a b
def Da:∀a:Kt,GU a a=false
 |[]=>rfl
 |x::r=>by simp[GU,Op.bytesLess];exact Da r
def Ll:∀{a b:Kt},a≠b->GU a b=!GU b a
 |[],[],h=>absurd rfl h
 |[],y::s,_=>rfl
 |x::r,[],_=>rfl
 |x::r,y::s,h=>by
  simp only[GU,Op.bytesLess];by_cases c:x=y
  ·have:=@Ll r s (by intro e;exact h (by rw[c,e]));simp only[GU]at this;simp_all
  ·grind
def B6:∀{a b c:Kt},GU a b=true->GU b c=true->GU a c=true
 |a,b,[],h1,h2=>by simp[GU,Op.bytesLess]at h2
 |a,[],z::t,h1,h2=>by cases a<;>simp[GU,Op.bytesLess]at h1
 |[],y::s,z::t,h1,h2=>rfl
 |x::r,y::s,z::t,h1,h2=>by
  simp only[GU,Op.bytesLess,Zt,QB,decide_eq_true_eq,beq_iff_eq]at h1 h2 ⊢;rcases h1 with h1|⟨rfl,h1⟩
  ·grind
  ·rcases h2 with h2|⟨rfl,h2⟩
   ·left;exact h2
   ·right;exact⟨rfl,@B6 r s t h1 h2⟩
def CM{a b:Kt}(h:GU a b=true):GU b a=false:=by
 by_cases e:a=b
 ·subst e;rw[Da]at h;cases h
 ·have:=Ll e;simp_all
inductive Tr where
 |nil
 |node (l:Tr) (k v:Kt) (r:Tr)
namespace Tr
def tall:Tr->Nat
 |nil=>0
 |node l _ _ r=>1+max l.tall r.tall
def cnt:Tr->Nat
 |nil=>0
 |node l _ _ r=>1+l.cnt+r.cnt
def wgt:Tr->Nat
 |nil=>0
 |node l k v r=>4+k.length+v.length+l.wgt+r.wgt
def lst:Tr->List (Kt×Kt)
 |nil=>[]
 |node l k v r=>l.lst++(k,v)::r.lst
def rotL:Tr->Tr
 |node l k v (node a x y b)=>node (node l k v a) x y b
 |t=>t
def rotR:Tr->Tr
 |node (node a x y b) k v r=>node a x y (node b k v r)
 |t=>t
def level(l:Tr)(k v:Kt)(r:Tr):Tr:=
 if r.tall+1<l.tall then
  match l with
  |node a x y b=>if a.tall<b.tall then rotR (node (rotL l) k v r)else rotR (node l k v r)
  |nil=>node l k v r
 else if l.tall+1<r.tall then
  match r with
  |node a x y b=>if b.tall<a.tall then rotL (node l k v (rotR r))else rotL (node l k v r)
  |nil=>node l k v r
 else node l k v r
def join(l:Tr)(k v:Kt)(r:Tr):Tr:=
 if r.tall+1<l.tall then
  match l with
  |node a x y b=>level a x y (join b k v r)
  |nil=>node l k v r
 else if l.tall+1<r.tall then
  match r with
  |node a x y b=>level (join l k v a) x y b
  |nil=>node l k v r
 else node l k v r
termination_by SizeOf.sizeOf l+SizeOf.sizeOf r
def put(k v:Kt):Tr->Tr
 |nil=>node nil k v nil
 |node l x y r=>if GU k x then level (put k v l) x y r else if GU x k then level l x y (put k v r)else node l k v r
def first:Tr->Kt->Kt->Tr->Kt×Kt×Tr
 |nil,k,v,r=>(k,v,r)
 |node a x y b,k,v,r=>let z:=first a x y b;(z.1,z.2.1,level z.2.2 k v r)
def both(l r:Tr):Tr:=
 match r with
 |nil=>l
 |node a x y b=>let z:=first a x y b;join l z.1 z.2.1 z.2.2
def split(q:Kt):Tr->Tr×Tr
 |nil=>(nil,nil)
 |node l x y r=>if GU x q then let z:=split q r;(join l x y z.1,z.2)else let z:=split q l;(z.1,join z.2 x y r)
def get(q:Kt):Tr->Option Kt
 |nil=>none
 |node l x y r=>if GU q x then get q l else if GU x q then get q r else some y
def rank(q:Kt):Tr->Nat
 |nil=>0
 |node l x y r=>if GU x q then 1+l.cnt+rank q r else rank q l
def at_:Tr->Nat->Option (Kt×Kt)
 |nil,_=>none
 |node l x y r,i=>if i<l.cnt then at_ l i else if l.cnt<i then at_ r (i-(l.cnt+1))else some (x,y)
def Wc:∀t,(rotL t).lst=t.lst
 |nil=>rfl
 |node l k v nil=>rfl
 |node l k v (node a x y b)=>by simp[rotL,lst]
def Wa:∀t,(rotR t).lst=t.lst
 |nil=>rfl
 |node nil k v r=>rfl
 |node (node a x y b) k v r=>by simp[rotR,lst]
def Ey(l:Tr)(k v:Kt)(r:Tr):(level l k v r).lst=l.lst++(k,v)::r.lst:=by
 unfold level;split
 ·split
  ·split<;>simp[Wa,lst,Wc]
  ·rfl
 ·split
  ·split
   ·split<;>simp[Wc,lst,Wa]
   ·rfl
  ·rfl
def EK(l:Tr)(k v:Kt)(r:Tr):(join l k v r).lst=l.lst++(k,v)::r.lst:=by
 fun_induction join l k v r<;>simp_all [Ey,lst]
def FS:∀(l:Tr)(k v:Kt)(r:Tr),((first l k v r).1,(first l k v r).2.1)::(first l k v r).2.2.lst=l.lst++(k,v)::r.lst
 |nil,k,v,r=>rfl
 |node a x y b,k,v,r=>by
  have:=FS a x y b;simp only[first,Ey,lst];rw[←this];rfl
def Wd(l r:Tr):(both l r).lst=l.lst++r.lst:=by
 unfold both;cases r with
 |nil=>simp[lst]
 |node a x y b=>
  have:=FS a x y b;simp only[EK];rw[this];rfl
def Ord(l:List (Kt×Kt)):Prop:=l.Pairwise λa b=>GU a.1 b.1=true
def lF{a b:List (Kt×Kt)}:Ord (a++b)↔Ord a∧Ord b∧∀x∈a,∀y∈b,GU x.1 y.1=true:=List.pairwise_append
def TL{a b:List (Kt×Kt)}{k v:Kt}(h:Ord (a++(k,v)::b)):Ord a∧Ord b∧(∀x∈a,GU x.1 k=true)∧(∀x∈b,GU k x.1=true):=by
 obtain⟨u,y,p⟩:=lF.1 h;have n:=QM.1 y;exact⟨u,n.2,λx q=>p x q _ Qo,λx q=>n.1 x q⟩
def gG(l:List (Kt×Kt))(k v:Kt):List (Kt×Kt):=l.filter (λx=>GU x.1 k)++(k,v)::l.filter (λx=>GU k x.1)
def DZ{l:List (Kt×Kt)}{p:Kt×Kt->Bool}(h:∀x∈l,p x=true):l.filter p=l:=List.filter_eq_self.2 h
def Gm{l:List (Kt×Kt)}{p:Kt×Kt->Bool}(h:∀x∈l,p x=false):l.filter p=[]:=Zs.2 λx q=>by rw[h x q];simp
def lst_put(k v:Kt):∀t:Tr,Ord t.lst->(put k v t).lst=gG t.lst k v
 |nil,_=>rfl
 |node l x y r,h=>by
  obtain⟨u,f,p,n⟩:=TL h;unfold put;split
  ·rename_i c;rw[Ey,lst_put k v l u];have j:r.lst.filter (λx=>GU x.1 k)=[]:=Gm λz i=>CM (B6 c (n z i))
   have m:r.lst.filter (λx=>GU k x.1)=r.lst:=DZ λz i=>B6 c (n z i)
   simp[gG,lst,QY,Qi,c,CM c,j,m]
  ·split
   ·rename_i g c;rw[Ey,lst_put k v r f];have j:l.lst.filter (λx=>GU x.1 k)=l.lst:=DZ λz i=>B6 (p z i) c
    have m:l.lst.filter (λx=>GU k x.1)=[]:=Gm λz i=>CM (B6 (p z i) c)
    simp[gG,lst,QY,Qi,c,CM c,j,m]
   ·rename_i g c;have e:k=x:=by
     by_cases e:k=x
     ·exact e
     ·have:=Ll e;simp_all
    subst e;have j:l.lst.filter (λx=>GU x.1 k)=l.lst:=DZ p;have m:l.lst.filter (λx=>GU k x.1)=[]:=Gm λz i=>CM (p z i)
    have s:r.lst.filter (λx=>GU x.1 k)=[]:=Gm λz i=>CM (n z i)
    have w:r.lst.filter (λx=>GU k x.1)=r.lst:=DZ n;simp[gG,lst,QY,Qi,Da,j,m,s,w]
def lst_split(q:Kt):∀t:Tr,Ord t.lst->(split q t).1.lst=t.lst.filter (λx=>GU x.1 q)∧(split q t).2.lst=t.lst.filter (λx=>!GU x.1 q)
 |nil,_=>⟨rfl,rfl⟩
 |node l x y r,h=>by
  obtain⟨u,f,p,h4⟩:=TL h;unfold split;split
  ·rename_i c;obtain⟨a,b⟩:=lst_split q r f;have j:l.lst.filter (λx=>GU x.1 q)=l.lst:=DZ λz i=>B6 (p z i) c
   have m:l.lst.filter (λx=>!GU x.1 q)=[]:=Gm λz i=>by rw[B6 (p z i) c];rfl
   simp[EK,a,b,lst,QY,Qi,c,j,m]
  ·rename_i c;have c:GU x q=false:=by simpa using c
   obtain⟨a,b⟩:=lst_split q l u;have n:∀z∈r.lst,GU z.1 q=false:=λz i=>by
    cases hh:GU z.1 q with
    |false=>rfl
    |true=>rw[B6 (h4 z i) hh]at c;cases c
   have j:r.lst.filter (λx=>GU x.1 q)=[]:=Gm n;have m:r.lst.filter (λx=>!GU x.1 q)=r.lst:=DZ λz i=>by rw[n z i];rfl
   simp[EK,a,b,lst,QY,Qi,c,j,m]
def cnt_lst:∀t:Tr,t.lst.length=t.cnt
 |nil=>rfl
 |node l k v r=>by simp[lst,cnt,cnt_lst l,cnt_lst r];omega
def at_lst:∀(t:Tr)(i:Nat),at_ t i=t.lst[i]?
 |nil,i=>by simp[at_,lst]
 |node l x y r,i=>by
  unfold at_;have o:=cnt_lst l;split
  ·rename_i c;rw[at_lst l i,lst,QP O]
  ·split
   ·rename_i w c;rw[at_lst r,lst,Zh O,o];obtain⟨j,rfl⟩:∃j,i=l.cnt+1+j:=⟨i-(l.cnt+1),O⟩;rw[show l.cnt+1+j-l.cnt=j+1 by omega,List.getElem?_cons_succ];congr 1;omega
   ·rename_i w c;have:i=l.cnt:=by omega
    rw[lst,Zh O,o,this];simp
def PI(l:List (Kt×Kt))(q:Kt):Option Kt:=(l.find? λx=>x.1==q).map (·.2)
def get_lst(q:Kt):∀t:Tr,Ord t.lst->get q t=PI t.lst q
 |nil,_=>rfl
 |node l x y r,h=>by
  obtain⟨u,f,p,n⟩:=TL h;have i:∀{l:List (Kt×Kt)},(∀z∈l,z.1≠q)->l.find? (λx=>x.1==q)=none:=λv=>Zi.2 λz hz=>by simpa using v z hz
  unfold get;split
  ·rename_i c;have e:((x,y)::r.lst).find? (λx=>x.1==q)=none:=i λz hz e=>by
    rcases Qn.1 hz with rfl|hz
    ·simp only at e;subst e;rw[Da]at c;cases c
    ·have:=B6 c (n z hz);rw[e,Da]at this;cases this
   rw[get_lst q l u];simp only[PI,lst,Zk,e,Option.or_none]
  ·split
   ·rename_i w c;have e:l.lst.find? (λx=>x.1==q)=none:=i λz hz e=>by
     have:=B6 (p z hz) c;rw[e,Da]at this;cases this
    have m:(x==q)=false:=by
     cases v:x==q with
     |false=>rfl
     |true=>have:=beq_iff_eq.1 v;subst this;rw[Da]at c;cases c
    rw[get_lst q r f];simp only[PI,lst,Zk,e,Option.none_or,ZM,m]
   ·rename_i w c;have e:x=q:=by
     by_cases e:x=q
     ·exact e
     ·have:=Ll e;simp_all
    subst e;have e:l.lst.find? (λz=>z.1==x)=none:=Zi.2 λz hz=>by
     intro e;have:=beq_iff_eq.1 e;have k:=p z hz;rw[this,Da]at k;cases k
    simp[PI,lst,Zk,e,ZM]
end Tr
def yQ{P:Program}{f:FuncId}{N:Nat}{x:DC}{rs:List RV}(s:Fn P f N x rs):(Ac λ_=>none).ok P f:=by
 obtain⟨k,j,q,y,p,n,c,h6⟩:=s.is;refine⟨⟨k,q,XI,p⟩,λds m m' fr _=>rfl,?_⟩;intro i w0 w m g fr ds vs r u hi t hl b z;simp[Ac]at z
def jN(S:(List D->Option D)->Gz)(x:DC)(rs:List RV)(N:Nat):Nat->List D->Option D
 |0=>λ_=>none
 |n+1=>RF (S (jN S x rs N n)) x rs N
def xH{P:Program}{f:FuncId}{N:Nat}{x:DC}{rs:List RV}{S:(List D->Option D)->Gz}(s:Fn P f N x rs)(w:∀G,(Ac G).ok P f->Gz.ok P (S G)):∀n,(Ac (jN S x rs N n)).ok P f
 |0=>yQ s
 |n+1=>An s (w _ (xH s w n))
def aFt{P:Program}{f:FuncId}{A:Nat->List D->Option D}(m:List D->Nat)(h:∀n,(Ac (A n)).ok P f):(Ac λds=>A (m ds) ds).ok P f:=by
 refine⟨(h 0).1,λds m m' fr _=>rfl,?_⟩;intro i w0 w m' g fr ds vs r u hi t hl b z;obtain⟨_,_,p⟩:=h (m (ds.map D.un));exact p hi t hl b (by simpa[Ac]using z)
def GK:Tr->D
 | .nil=> .nilptr
 | .node l k v r=> .eptr [.str k,.str v,GK l,GK r,.int .i64 ((Tr.node l k v r).tall:Nat),.int .i64 ((Tr.node l k v r).cnt:Nat),.int .i64 ((Tr.node l k v r).wgt:Nat)]
def Vp(t:Tr):(GK t).calm=true:=Xk
def pH(t:Tr):(GK t).calm1=true:=Xk
def aMK(t:Tr):(GK t).un=GK t:=Xk
def aE2(t:Tr):(GK t).un1=GK t:=Xk
def pG(t:Tr):(GK t).cells=[GK t]:=Xk
def E5:∀{a b:Tr},GK a=GK b->a=b
 | .nil,.nil,_=>rfl
 | .nil,.node _ _ _ _,h=>by simp[GK]at h
 | .node _ _ _ _,.nil,h=>by simp[GK]at h
 | .node l k v r,.node l' k' v' r',h=>by
  simp only[GK,D.eptr.injEq,Qk,D.str.injEq]at h;obtain⟨rfl,rfl,u,y,_⟩:=h;rw[E5 u,E5 y]
def D.dep:D->Nat
 | .eptr ds=>1+D.depL ds
 |_=>0
where D.depL:List D->Nat
 |[]=>0
 |d::ds=>max d.dep (D.depL ds)
def IE:∀t:Tr,(GK t).dep=t.tall
 | .nil=>rfl
 | .node l k v r=>by
  simp only[GK,D.dep,D.dep.D.depL,IE l,IE r,Tr.tall];omega
def iI(ds:List D):Nat:=2*D.dep.D.depL ds+1
def RT(S:(List D->Option D)->Gz)(x:DC)(rs:List RV)(N:Nat)(ds:List D):Option D:=jN S x rs N (iI ds) ds
def kY{P:Program}{f:FuncId}{N:Nat}{x:DC}{rs:List RV}{S:(List D->Option D)->Gz}(s:Fn P f N x rs)(w:∀G,(Ac G).ok P f->Gz.ok P (S G)):(Ac (RT S x rs N)).ok P f:=
 aFt iI (xH s w)
namespace Tr
def zF(a b:Kt):GU a b=true∨a=b∨GU b a=true:=by
 by_cases e:a=b
 ·exact .inr (.inl e)
 ·have:=Ll e;cases h:GU a b with
  |true=>exact .inl rfl
  |false=>rw[h]at this;exact .inr (.inr (by cases y:GU b a<;>simp_all))
def aR7{a b:Kt}(h:GU a b=true):(a==b)=false:=by
 cases hh:a==b with
 |false=>rfl
 |true=>have:=beq_iff_eq.1 hh;subst this;rw[Da]at h;cases h
def aNl{a b:Kt}(h:GU a b=true):(b==a)=false:=by
 cases hh:b==a with
 |false=>rfl
 |true=>have:=beq_iff_eq.1 hh;subst this;rw[Da]at h;cases h
def ord_sub{a b:List (Kt×Kt)}(h:a.Sublist b)(k:Ord b):Ord a:=List.Pairwise.sublist h k
def aAY(q:Kt):∀{l:List (Kt×Kt)},Ord l->l.filter (λx=>GU x.1 q)++l.filter (λx=>GU q x.1)=l.filter (λx=>x.1 !=q)
 |[],_=>rfl
 |(k,v)::l,h=>by
  obtain⟨u,y⟩:=QM.1 h;have ih:=aAY q y;rcases zF k q with c|rfl|c
  ·simp only[bne]at ih ⊢;simp[Qi,c,CM c,aR7 c,ih]
  ·have j:l.filter (λx=>GU x.1 k)=[]:=Gm λz i=>CM (u z i)
   rw[j]at ih;simp only[bne]at ih ⊢;simp[Qi,Da,j,←ih]
  ·have j:l.filter (λx=>GU x.1 q)=[]:=Gm λz i=>CM (B6 c (u z i))
   rw[j]at ih;simp only[bne]at ih ⊢;simp[Qi,c,CM c,aNl c,j,←ih]
def fil_ge{q v:Kt}:∀{l:List (Kt×Kt)},Ord l->(q,v)∈l->l.filter (λx=>!GU x.1 q)=(q,v)::l.filter (λx=>GU q x.1)
 |(k,w)::l,h,hm=>by
  obtain⟨u,y⟩:=QM.1 h;rcases Qn.1 hm with e|hm
  ·cases e;have j:l.filter (λx=>!GU x.1 q)=l:=DZ λz i=>by rw[CM (u z i)];rfl
   have m:l.filter (λx=>GU q x.1)=l:=DZ λz i=>u z i
   simp[Qi,Da,j,m]
  ·have c:=u _ hm;simp only at c;simp[Qi,c,CM c,fil_ge y hm]
def getL_some{l:List (Kt×Kt)}{q v:Kt}(h:PI l q=some v):(q,v)∈l:=by
 unfold PI at h;obtain⟨x,u,rfl⟩:=Qx.1 h;have y:=List.find?_some u;have p:=List.mem_of_find?_eq_some u;have:x.1=q:=by simpa using y
 rw[←this];exact p
def SG{l:List (Kt×Kt)}{q:Kt}(h:PI l q=none):∀x∈l,x.1≠q:=by
 unfold PI at h;have u:=Option.map_eq_none_iff.1 h;intro x p e;have:=Zi.1 u x p;simp[e]at this
def getL_mem{l:List (Kt×Kt)}(h:Ord l){q v:Kt}(t:(q,v)∈l):PI l q=some v:=by
 cases hg:PI l q with
 |none=>exact absurd rfl (SG hg _ t)
 |some w=>
  have k:=getL_some hg;rcases Classical.em (w=v)with e|e
  ·rw[e]
  ·exfalso;obtain⟨i,hi,m⟩:=QI t;obtain⟨j,u,y⟩:=QI k;rcases ZE i j with c|c|c
   ·have:=QD.1 h i j hi u c;rw[m,y,Da]at this;cases this
   ·subst c;rw[m]at y;cases y;exact e rfl
   ·have:=QD.1 h j i u hi c;rw[m,y,Da]at this;cases this
def delT(q:Kt)(t:Tr):Tr:=
 match get q t with
 |none=>t
 |some _=>match (split q t).2 with
  |nil=>(split q t).1
  |node a x y b=>both (split q t).1 (first a x y b).2.2
def lst_del(q:Kt)(t:Tr)(h:Ord t.lst):(delT q t).lst=t.lst.filter λx=>x.1 !=q:=by
 unfold delT;rw[get_lst q t h];cases hg:PI t.lst q with
 |none=>exact(DZ λz i=>by simpa using SG hg z i).symm
 |some v=>
  have u:=getL_some hg;obtain⟨o,n⟩:=lst_split q t h;rw[fil_ge h u]at n;simp only;cases i:(split q t).2 with
  |nil=>rw[i]at n;cases n
  |node a x y b=>
   rw[i]at n;have s:=FS a x y b;simp only[lst]at n;rw[n]at s;simp only[Wd,o,(ZV s).2,aAY q h]
def beyB:Kt->Option Kt
 |[]=>none
 |x::r=>match beyB r with
  |some e=>some (x::e)
  |none=>if x<255 then some [x+1]else none
def dropT(p:Kt)(t:Tr):Tr:=
 match beyB p with
 |none=>(split p t).1
 |some e=>both (split p t).1 (split e (split p t).2).2
def mJ(p:Kt)(l:List (Kt×Kt)):List (Kt×Kt):=
 l.filter (λx=>GU x.1 p)++match beyB p with
  |none=>[]
  |some e=>(l.filter λx=>!GU x.1 p).filter λx=>!GU x.1 e
def lst_drop(p:Kt)(t:Tr)(h:Ord t.lst):(dropT p t).lst=mJ p t.lst:=by
 obtain⟨o,n⟩:=lst_split p t h;unfold dropT mJ;cases beyB p with
 |none=>simp[o]
 |some e=>
  have:=(lst_split e (split p t).2 (by rw[n];exact ord_sub QX h)).2;simp only[Wd,o,this,n]
def mF(p:Kt):∀{l:List (Kt×Kt)},Ord l->l.filter (λx=>GU x.1 p)++l.filter (λx=>!GU x.1 p)=l
 |[],_=>rfl
 |(k,v)::l,h=>by
  obtain⟨u,y⟩:=QM.1 h;have ih:=mF p y;cases c:GU k p with
  |true=>simp[Qi,c,ih]
  |false=>
   have e:∀z∈l,GU z.1 p=false:=λz i=>by
    cases hh:GU z.1 p with
    |false=>rfl
    |true=>rw[B6 (u z i) hh]at c;cases c
   have j:l.filter (λx=>GU x.1 p)=[]:=Gm e;have m:l.filter (λx=>!GU x.1 p)=l:=DZ λz i=>by rw[e z i];rfl
   simp only[Qi,c,j,m];rfl
def drop_sub(p:Kt){l:List (Kt×Kt)}(h:Ord l):(mJ p l).Sublist l:=by
 unfold mJ;have e:=mF p h
 conv=>rhs;rw[←e]
 refine List.Sublist.append (List.Sublist.refl _) ?_;cases beyB p with
 |none=>exact List.nil_sublist _
 |some e=>exact QX
def ins_ord{l:List (Kt×Kt)}(h:Ord l)(k v:Kt):Ord (gG l k v):=by
 refine lF.2 ⟨ord_sub QX h,QM.2 ⟨λx q=>Yt,ord_sub QX h⟩,λx q y hy=>?_⟩;have ta:GU x.1 k=true:=Yt
 rcases Qn.1 hy with rfl|hy
 ·exact ta
 ·exact B6 ta (by simpa using (QQ.1 hy).2)
def ins_mem{l:List (Kt×Kt)}{k v:Kt}{x:Kt×Kt}(h:x∈gG l k v):x=(k,v)∨x∈l:=by
 unfold gG at h;rcases QH.1 h with h|h
 ·exact .inr (QQ.1 h).1
 ·rcases Qn.1 h with h|h
  ·exact .inl h
  ·exact .inr (QQ.1 h).1
inductive Op1 where
 |put (k v:Kt)
 |del (k:Kt)
 |drop (k:Kt)
def costL(x:Kt×Kt):Nat:=36+x.1.length+min x.2.length 1048576
def weighL(l:List (Kt×Kt)):Nat:=4+(l.map costL).sum
def weigh_len:∀l:List (Kt×Kt),36*l.length+4<=weighL l
 |[]=>by simp[weighL]
 |y::l=>by
  have:=weigh_len l;simp only[weighL,QV,ZQ,Qb,costL]at this ⊢;omega
def tall_cnt:∀t:Tr,t.tall<=t.cnt
 |nil=>Qe _
 |node l k v r=>by have:=tall_cnt l;have:=tall_cnt r;simp only[tall,cnt];omega
def sizeL(l:List (Kt×Kt)):Nat:=(l.map λx=>4+x.1.length+x.2.length).sum
def wgt_lst:∀t:Tr,t.wgt=sizeL t.lst
 |nil=>rfl
 |node l k v r=>by
  have:=wgt_lst l;have:=wgt_lst r;simp only[wgt,lst,sizeL,Zv,List.sum_append,QV,ZQ]at *;omega
end Tr
end Go.Vd
namespace Go.Vd
open Go.Proofs Go.RowKit
def ID:GK .nil= .nilptr:=rfl
section
variable{S:Gz}{l r:Tr}{k v:Bs}
def aMJ{K:D->GF->Prop}{g:Tag K}:IP (GK (.node l k v r)) K g=K (GK (.node l k v r)) []:=rfl
def aQv:EQ 0 (GK (.node l k v r))=some (.eptr [.str k,.str v,GK l,GK r,.int .i64 ((Tr.node l k v r).tall:Nat),.int .i64 ((Tr.node l k v r).cnt:Nat),.int .i64 ((Tr.node l k v r).wgt:Nat)]):=rfl
def aQu:EQ 1 (GK (.node l k v r))=some (.eptr [.str v,GK l,GK r,.int .i64 ((Tr.node l k v r).tall:Nat),.int .i64 ((Tr.node l k v r).cnt:Nat),.int .i64 ((Tr.node l k v r).wgt:Nat)]):=rfl
def aQt:EQ 2 (GK (.node l k v r))=some (.eptr [GK l,GK r,.int .i64 ((Tr.node l k v r).tall:Nat),.int .i64 ((Tr.node l k v r).cnt:Nat),.int .i64 ((Tr.node l k v r).wgt:Nat)]):=rfl
def aQs:EQ 3 (GK (.node l k v r))=some (.eptr [GK r,.int .i64 ((Tr.node l k v r).tall:Nat),.int .i64 ((Tr.node l k v r).cnt:Nat),.int .i64 ((Tr.node l k v r).wgt:Nat)]):=rfl
def aQr:EQ 4 (GK (.node l k v r))=some (.eptr [.int .i64 ((Tr.node l k v r).tall:Nat),.int .i64 ((Tr.node l k v r).cnt:Nat),.int .i64 ((Tr.node l k v r).wgt:Nat)]):=rfl
def aQq:EQ 5 (GK (.node l k v r))=some (.eptr [.int .i64 ((Tr.node l k v r).cnt:Nat),.int .i64 ((Tr.node l k v r).wgt:Nat)]):=rfl
def aQp:EQ 6 (GK (.node l k v r))=some (.eptr [.int .i64 ((Tr.node l k v r).wgt:Nat)]):=rfl
def aQo:L1 1 (GK (.node l k v r)) .nilptr=some false:=rfl
def aMH:L1 1 .nilptr .nilptr=some true:=rfl
def Tf(t:Tr):(GK t).calm=true:=Vp t
def Vo(t:Tr):(GK t).calmR=true:=Xk
def aMI(t:Tr):(GK t).unR=GK t:=Xk
def aEY(t:Tr):(GK t).data=true:=Xk
def aFD:D.calm .nilptr=true:=rfl
def aRI:D.un .nilptr= .nilptr:=rfl
def yO:D.cells .nilptr=[.nilptr]:=rfl
def yP:D.calm1 .nilptr=true:=rfl
def aNf:D.un1 .nilptr= .nilptr:=rfl
end
def GM:=Qq @aMJ <| Qq @aQv <| Qq @aQu <| Qq @aQt <| Qq @aQs <| Qq @aQr <| Qq @aQq <| Qq @aQp <| Qq @aQo <| Qq @aMH <| Qq Tf <| Qq Vo <| Qq aMI <| Qq aEY <| Qq aMK <| Qq aE2 <| Qq pH <| Qq pG <| Qq aFD <| Qq aRI <| Qq yO <| Qq yP <| Qq aNf ID
def aUf:=Aq []
def cW:=RF aUf aBp [.t 2] 9
def fX:Kq cW 256:=An (Aj func256) Ad
def C8(t:Tr):cW [GK t]=some (.int .i64 (t.tall:Nat)):=by
 refine Al (Qa rfl) ?_;unfold aBp;cases t with
 |nil=>
  simp only[GC,↓C2,Gy,simprocAttr,GM,bne_self_eq_false]
  all_goals exact YR
 |node l k v r=>
  simp only[GC,↓C2,Gy,simprocAttr,GM]
  all_goals exact YR
def aUl:=Aq []
def MF:=RF aUl aBx [.t 2] 9
def Ub:Kq MF 104:=An (Aj func104) Ad
def Ix(t:Tr):MF [GK t]=some (.int .i64 (t.cnt:Nat)):=by
 refine Al (Qa rfl) ?_;unfold aBx;cases t with
 |nil=>
  simp only[GC,↓C2,Gy,simprocAttr,GM,bne_self_eq_false]
  all_goals exact YR
 |node l k v r=>
  simp only[GC,↓C2,Gy,simprocAttr,GM]
  all_goals exact YR
def aUi:=Aq []
def aDc:=RF aUi aBt [.t 2] 9
def aAe:Kq aDc 172:=An (Aj func172) Ad
def Rf(t:Tr):aDc [GK t]=some (.int .i64 (t.wgt:Nat)):=by
 refine Al (Qa rfl) ?_;unfold aBt;cases t with
 |nil=>
  simp only[GC,↓C2,Gy,simprocAttr,GM,bne_self_eq_false]
  all_goals exact YR
 |node l k v r=>
  simp only[GC,↓C2,Gy,simprocAttr,GM]
  all_goals exact YR
def mkN(p:Tr×Bs×Bs×Tr):List D:=[GK p.1,.str p.2.1,.str p.2.2.1,GK p.2.2.2]
def aFI(x y)(h:mkN x=mkN y):x=y:=by
 obtain⟨a,b,c,d⟩:=x;obtain⟨t,v,c',n⟩:=y;simp only[mkN,Qk,D.str.injEq,and_true]at h;obtain⟨u,rfl,rfl,f⟩:=h;rw[E5 u,E5 f]
def aI0(l:Tr)(k v:Bs)(r:Tr):Prop:=l.cnt+r.cnt<=1000000∧l.wgt+r.wgt+k.length+v.length<=1000000000000
def IB:List D->Option D:=FX mkN (λp=>aI0 p.1 p.2.1 p.2.2.1 p.2.2.2) λp=>GK (.node p.1 p.2.1 p.2.2.1 p.2.2.2)
def GR{l:Tr}{k v:Bs}{r:Tr}(h:aI0 l k v r):IB [GK l,.str k,.str v,GK r]=some (GK (.node l k v r)):=BV (mk:=mkN) (a:=(l,k,v,r)) aFI h
def MY:Kq IB 202:=by
 obtain⟨S,w,hl⟩:=Bl (Aa fX (Aa Ub (Aa aAe Ad)));have e:=hl 256 _ rfl;have z:=hl 104 _ rfl;have a:=hl 172 _ rfl;clear hl;refine aAO w (Aj func202:Fn Qc 202 39 aBs [.t 8]) (λ_=>by simp[mkN]) (λp g=>⟨Vo _,?_⟩);obtain⟨l,k,v,r⟩:=p;obtain⟨hc,hw⟩:=g;simp only at hc hw;have c:=Tr.tall_cnt l;have t2:=Tr.tall_cnt r;have a1:=C8 l;have s:=C8 r;have b1:=Ix l;have u:=Ix r;have c1:=Rf l;have n:=Rf r;have e1:IntKind.i64.wrap (1+max (l.tall:Int) r.tall)=((1+max l.tall r.tall:Nat):Int):=Xi
 have b:IntKind.i64.wrap (1+(l.cnt:Int))=((1+l.cnt:Nat):Int):=Xi
 have f:IntKind.i64.wrap (((1+l.cnt:Nat):Int)+r.cnt)=((1+l.cnt+r.cnt:Nat):Int):=Xi
 have e4:IntKind.i64.wrap (4+(k.length:Int))=((4+k.length:Nat):Int):=Xi
 have y:IntKind.i64.wrap (((4+k.length:Nat):Int)+v.length)=((4+k.length+v.length:Nat):Int):=Xi
 have e6:IntKind.i64.wrap (((4+k.length+v.length:Nat):Int)+l.wgt)=((4+k.length+v.length+l.wgt:Nat):Int):=Xi
 have e7:IntKind.i64.wrap (((4+k.length+v.length+l.wgt:Nat):Int)+r.wgt)=((4+k.length+v.length+l.wgt+r.wgt:Nat):Int):=Xi
 unfold aBs mkN;simp only;simp only[GC,↓C2,Gy,simprocAttr,GM,Ab e,Ab z,Ab a,a1,s,b1,u,c1,n,e1,b,f,e4,y,e6,e7];refine .inl ⟨Tf _,.inl (.inr (.inr ⟨_,_,rfl,rfl,?_,?_⟩))⟩
 ·intro x q;simp only[Qn,Zl,or_false]at q;rcases q with rfl|rfl|rfl|rfl|rfl|rfl|rfl
  all_goals (first|rfl|exact Tf _)
 ·intro j x q;have hl:=(Qy.1 q).1;have g:=aE (m:=λ_ _=>none) (i:=[30]) (o:=0) (ds:=[D.str k,D.str v,GK l,GK r,D.int IntKind.i64 ((Tr.node l k v r).tall:Nat),D.int IntKind.i64 ((Tr.node l k v r).cnt:Nat),D.int IntKind.i64 ((Tr.node l k v r).wgt:Nat)]) (j:=j) hl;rw[Qj]at g;rw[←q];exact g
def aBo:=y2 f257 [(2,[(16,20),(16,24),(16,28)])] []
def aBn:=y2 Tryz.f258 [(2,[(28,3),(28,7),(28,11)])] []
def aBr:=y2 f203 [(1,[(4,8)]),(3,[(7,11),(7,14)]),(4,[(4,8),(4,12),(4,16)]),(7,[(7,11),(7,14)]),(8,[(16,3),(16,7),(16,11)])] []
namespace Tr
def cnt_level(l:Tr)(k v:Kt)(r:Tr):(level l k v r).cnt=1+l.cnt+r.cnt:=by
 rw[←cnt_lst,Ey,Qh,Qb,cnt_lst,cnt_lst];omega
def cnt_join(l:Tr)(k v:Kt)(r:Tr):(join l k v r).cnt=1+l.cnt+r.cnt:=by
 rw[←cnt_lst,EK,Qh,Qb,cnt_lst,cnt_lst];omega
def LR(a b:List (Kt×Kt)):sizeL (a++b)=sizeL a+sizeL b:=by simp[sizeL]
def size_cons(k v:Kt)(b:List (Kt×Kt)):sizeL ((k,v)::b)=4+k.length+v.length+sizeL b:=by simp[sizeL]
def wgt_level(l:Tr)(k v:Kt)(r:Tr):(level l k v r).wgt=4+k.length+v.length+l.wgt+r.wgt:=by
 rw[wgt_lst,Ey,LR,size_cons,wgt_lst l,wgt_lst r];omega
def wgt_join(l:Tr)(k v:Kt)(r:Tr):(join l k v r).wgt=4+k.length+v.length+l.wgt+r.wgt:=by
 rw[wgt_lst,EK,LR,size_cons,wgt_lst l,wgt_lst r];omega
def cnt_first(l:Tr)(k v:Kt)(r:Tr):(first l k v r).2.2.cnt=l.cnt+r.cnt:=by
 have:=congrArg ZJ (FS l k v r);rw[Qb,Qh,Qb,cnt_lst,cnt_lst,cnt_lst]at this;omega
def wgt_first(l:Tr)(k v:Kt)(r:Tr):4+(first l k v r).1.length+(first l k v r).2.1.length+(first l k v r).2.2.wgt=4+k.length+v.length+l.wgt+r.wgt:=by
 have:=congrArg sizeL (FS l k v r);rw[LR,size_cons,size_cons,←wgt_lst,←wgt_lst,←wgt_lst]at this;omega
def Gb(q:Kt):∀t:Tr,(split q t).1.lst++(split q t).2.lst=t.lst
 |nil=>rfl
 |node l x y r=>by
  unfold split;split
  ·have:=Gb q r;simp only[EK,lst];rw[←this];simp
  ·have:=Gb q l;simp only[EK,lst];rw[←this];simp
def cnt_split(q:Kt)(t:Tr):(split q t).1.cnt+(split q t).2.cnt=t.cnt:=by
 rw[←cnt_lst,←cnt_lst,←cnt_lst,←Qh,Gb]
def wgt_split(q:Kt)(t:Tr):(split q t).1.wgt+(split q t).2.wgt=t.wgt:=by
 rw[wgt_lst,wgt_lst,wgt_lst t,←LR,Gb]
end Tr
def U9(t:Tr):Prop:=t.cnt<=900000∧t.wgt<=900000000000
def aLT:=Aq [(202,Ac IB)]
def aDa:=RF aLT aBo [.t 2] 38
def aNC:Kq aDa 257:=An (Aj func257) (Aa MY Ad)
def Rd{l:Tr}{k v:Bs}{a:Tr}{x y:Bs}{b:Tr}(h:U9 (.node l k v (.node a x y b))):aDa [GK (.node l k v (.node a x y b))]=some (GK (.node (.node l k v a) x y b)):=by
 refine Al (Qa rfl) ?_;unfold aBo;simp only[U9,Tr.cnt,Tr.wgt]at h;have j:=GR (l:=l) (k:=k) (v:=v) (r:=a) ⟨O,O⟩;have m:=GR (l:= .node l k v a) (k:=x) (v:=y) (r:=b) ⟨Xh,Xg⟩;simp only[GC,↓C2,Gy,simprocAttr,GM,Ae aLT 202,j,m]
 (refine As.intro (Am ?_) ?_;first|rfl|simp[AR,AB,GS,Ai,Ac])
 simp only[GC,↓C2,Gy,simprocAttr,GM]
 all_goals exact YR
def aLS:=Aq [(202,Ac IB)]
def aC9:=RF aLS aBn [.t 2] 38
def aNB:Kq aC9 258:=An (Aj func258) (Aa MY Ad)
def Rc{a:Tr}{x y:Bs}{b:Tr}{k v:Bs}{r:Tr}(h:U9 (.node (.node a x y b) k v r)):aC9 [GK (.node (.node a x y b) k v r)]=some (GK (.node a x y (.node b k v r))):=by
 refine Al (Qa rfl) ?_;unfold aBn;simp only[U9,Tr.cnt,Tr.wgt]at h;have j:=GR (l:=b) (k:=k) (v:=v) (r:=r) ⟨O,O⟩;have m:=GR (l:=a) (k:=x) (v:=y) (r:= .node b k v r) ⟨Xh,Xg⟩;simp only[GC,↓C2,Gy,simprocAttr,GM,Ae aLS 202,j,m]
 (refine As.intro (Am ?_) ?_;first|rfl|simp[AR,AB,GS,Ai,Ac])
 simp only[GC,↓C2,Gy,simprocAttr,GM]
 all_goals exact YR
def DN:Gz:=Aq [(256,Ac cW),(257,Ac aDa),(258,Ac aC9),(202,Ac IB)]
def N_:List D->Option D:=RF DN aBr [.t 2] 96
def fY:Kq N_ 203:=An (Aj func203) (Aa fX (Aa aNC (Aa aNB (Aa MY Ad))))
def Iw(l:Tr)(k v:Bs)(r:Tr)(h:U9 (.node l k v r)):N_ [GK (.node l k v r)]=some (GK (Tr.level l k v r)):=by
 refine Al (Qa rfl) ?_;unfold aBr;have g:=C8 l;have z:=C8 r;have m1:=Tr.tall_cnt l;have m2:=Tr.tall_cnt r;have e:=h;simp only[U9,Tr.cnt,Tr.wgt]at h;have i:IntKind.i64.wrap ((l.tall:Int)-r.tall)=(l.tall:Int)-r.tall:=GZ O O;unfold Tr.level;by_cases c1:r.tall+1<l.tall
 ·rw[if_pos c1];have o:((1:Int)<(l.tall:Int)-r.tall)=True:=eq_true O;cases l with
  |nil=>simp[Tr.tall]at c1
  |node a x y b=>
   have u1:=C8 a;have t:=C8 b;simp only[Tr.cnt,Tr.wgt]at h;simp only;by_cases n:a.tall<b.tall
   ·rw[if_pos n];have c:((a.tall:Int)<b.tall)=True:=eq_true O;cases b with
    |nil=>simp[Tr.tall]at n
    |node p q s u=>
     simp only[Tr.cnt,Tr.wgt]at h;have j:=Rd (l:=a) (k:=x) (v:=y) (a:=p) (x:=q) (y:=s) (b:=u) ⟨Xh,Xg⟩;have m:=GR (l:= .node (.node a x y p) q s u) (k:=k) (v:=v) (r:=r) ⟨Xh,Xg⟩;have f:=Rc (a:= .node a x y p) (x:=q) (y:=s) (b:=u) (k:=k) (v:=v) (r:=r) ⟨Xh,Xg⟩;simp only[Tr.rotL,Tr.rotR];simp only[GC,↓C2,Gy,simprocAttr,GM,Ae DN 256,g,z,i]
     (refine As.intro (Am ?_) ?_;first|rfl|simp[AR,AB,GS,Ai,Ac])
     simp only[GC,↓C2,Gy,simprocAttr,GM,o,Ae DN 256,u1,t]
     (refine As.intro (Am ?_) ?_;first|rfl|simp[AR,AB,GS,Ai,Ac])
     simp only[GC,↓C2,Gy,simprocAttr,GM,c,Ae DN 257,Ae DN 202,j,m]
     (refine As.intro (Am ?_) ?_;first|rfl|simp[AR,AB,GS,Ai,Ac])
     simp only[GC,↓C2,Gy,simprocAttr,GM,Ae DN 258,f]
     all_goals exact YR
   ·rw[if_neg n];have c:((a.tall:Int)<b.tall)=False:=eq_false O;have f:=Rc (a:=a) (x:=x) (y:=y) (b:=b) (k:=k) (v:=v) (r:=r) e;simp only[Tr.rotR];simp only[GC,↓C2,Gy,simprocAttr,GM,Ae DN 256,g,z,i]
    (refine As.intro (Am ?_) ?_;first|rfl|simp[AR,AB,GS,Ai,Ac])
    simp only[GC,↓C2,Gy,simprocAttr,GM,o,Ae DN 256,u1,t]
    (refine As.intro (Am ?_) ?_;first|rfl|simp[AR,AB,GS,Ai,Ac])
    simp only[GC,↓C2,Gy,simprocAttr,GM,c,Ae DN 258,f]
    all_goals exact YR
 ·rw[if_neg c1];have o:((1:Int)<(l.tall:Int)-r.tall)=False:=eq_false O;by_cases w:l.tall+1<r.tall
  ·rw[if_pos w];have d3:((l.tall:Int)-r.tall< -1)=True:=eq_true O;cases r with
   |nil=>simp[Tr.tall]at w
   |node a x y b=>
    have u1:=C8 a;have t:=C8 b;simp only[Tr.cnt,Tr.wgt]at h;simp only;by_cases n:b.tall<a.tall
    ·rw[if_pos n];have c:((b.tall:Int)<a.tall)=True:=eq_true O;cases a with
     |nil=>simp[Tr.tall]at n
     |node p q s u=>
      simp only[Tr.cnt,Tr.wgt]at h;have j:=Rc (a:=p) (x:=q) (y:=s) (b:=u) (k:=x) (v:=y) (r:=b) ⟨Xh,Xg⟩;have m:=GR (l:=l) (k:=k) (v:=v) (r:= .node p q s (.node u x y b)) ⟨Xh,Xg⟩;have f:=Rd (l:=l) (k:=k) (v:=v) (a:=p) (x:=q) (y:=s) (b:= .node u x y b) ⟨Xh,Xg⟩;simp only[Tr.rotL,Tr.rotR];simp only[GC,↓C2,Gy,simprocAttr,GM,Ae DN 256,g,z,i]
      (refine As.intro (Am ?_) ?_;first|rfl|simp[AR,AB,GS,Ai,Ac])
      simp only[GC,↓C2,Gy,simprocAttr,GM,o,d3,Ae DN 256,u1,t]
      (refine As.intro (Am ?_) ?_;first|rfl|simp[AR,AB,GS,Ai,Ac])
      simp only[GC,↓C2,Gy,simprocAttr,GM,c,Ae DN 258,Ae DN 202,j,m]
      (refine As.intro (Am ?_) ?_;first|rfl|simp[AR,AB,GS,Ai,Ac])
      simp only[GC,↓C2,Gy,simprocAttr,GM,Ae DN 257,f]
      all_goals exact YR
    ·rw[if_neg n];have c:((b.tall:Int)<a.tall)=False:=eq_false O;have f:=Rd (l:=l) (k:=k) (v:=v) (a:=a) (x:=x) (y:=y) (b:=b) e;simp only[Tr.rotL];simp only[GC,↓C2,Gy,simprocAttr,GM,Ae DN 256,g,z,i]
     (refine As.intro (Am ?_) ?_;first|rfl|simp[AR,AB,GS,Ai,Ac])
     simp only[GC,↓C2,Gy,simprocAttr,GM,o,d3,Ae DN 256,u1,t]
     (refine As.intro (Am ?_) ?_;first|rfl|simp[AR,AB,GS,Ai,Ac])
     simp only[GC,↓C2,Gy,simprocAttr,GM,c,Ae DN 257,f]
     all_goals exact YR
  ·rw[if_neg w];have d3:((l.tall:Int)-r.tall< -1)=False:=eq_false O;simp only[GC,↓C2,Gy,simprocAttr,GM,Ae DN 256,g,z,i]
   (refine As.intro (Am ?_) ?_;first|rfl|simp[AR,AB,GS,Ai,Ac])
   simp only[GC,↓C2,Gy,simprocAttr,GM,o,d3]
   all_goals exact YR
def Ni:=y2 f233 [(2,[(19,3),(19,7),(19,11)]),(4,[(7,11),(7,15),(7,19)])] []
def Nl:=y2 f138 [(5,[(6,10),(6,14),(6,18)]),(7,[(18,3),(18,7),(18,11)])] []
def Nj:=y2 f158 [] []
def aBw:=y2 f159 [] []
def Nk:=y2 f157 [] []
def aTe(l r:Tr)(k v:Bs):l.tall+r.tall<iI [GK l,.str k,.str v,GK r]:=by
 simp only[iI,D.dep.D.depL,D.dep,IE];omega
def MC(G:List D->Option D):Gz:=Aq [(256,Ac cW),(202,Ac IB),(203,Ac N_),(233,Ac G)]
def cX:=RT MC Ni [.t 8] 72
def aAd:Kq cX 233:=kY (Aj func233) λG h=>Aa fX (Aa MY (Aa fY (Aa h Ad)))
def aJp:∀(n:Nat)(l:Tr)(k v:Bs)(r:Tr),l.tall+r.tall<n->U9 (.node l k v r)->jN MC Ni [.t 8] 72 n [GK l,.str k,.str v,GK r]=some (GK (Tr.join l k v r))
 |0,l,k,v,r,h,_=>O
 |n+1,l,k,v,r,hn,h=>by
  show RF (MC (jN MC Ni [.t 8] 72 n)) Ni [.t 8] 72 _=_;refine Al (Qa rfl) ?_;have ih:=aJp n;generalize jN MC Ni [.t 8] 72 n=G at ih ⊢;have e:MC G 256=some (Ac cW):=rfl;have c:MC G 202=some (Ac IB):=rfl;have d:MC G 203=some (Ac N_):=rfl;have f:MC G 233=some (Ac G):=rfl;have g:=C8 l;have s:=C8 r;have m1:=Tr.tall_cnt l;have m2:=Tr.tall_cnt r;simp only[U9,Tr.cnt,Tr.wgt]at h;have j:IntKind.i64.wrap ((r.tall:Int)+1)=(r.tall:Int)+1:=GZ O O;have z:IntKind.i64.wrap ((l.tall:Int)+1)=(l.tall:Int)+1:=GZ O O;unfold Ni Tr.join;by_cases c1:r.tall+1<l.tall
  ·rw[if_pos c1];have q:((r.tall:Int)+1<l.tall)=True:=eq_true O;cases l with
   |nil=>simp[Tr.tall]at c1
   |node a x y b=>
    simp only[Tr.cnt,Tr.wgt]at h;have m:b.tall+r.tall<n:=by simp only[Tr.tall]at hn;omega
    have i:=ih b k v r m ⟨Xh,Xg⟩;have w:=Tr.cnt_join b k v r;have o:=Tr.wgt_join b k v r;have i2:=GR (l:=a) (k:=x) (v:=y) (r:=Tr.join b k v r) ⟨O,O⟩;have i3:=Iw a x y (Tr.join b k v r) ⟨Xh,Xg⟩;simp only;simp only[GC,↓C2,Gy,simprocAttr,GM,Ab e,g,s,j,q,Ab f,Ab c,Ab d,i,i2,i3]
    (refine As.intro (Am ?_) ?_;first|rfl|simp[AR,AB,GS,Ai,Ac])
    simp only[GC,↓C2,Gy,simprocAttr,GM]
    all_goals exact YR
  ·rw[if_neg c1];have q:((r.tall:Int)+1<l.tall)=False:=eq_false O;by_cases p:l.tall+1<r.tall
   ·rw[if_pos p];have u:((l.tall:Int)+1<r.tall)=True:=eq_true O;cases r with
    |nil=>simp[Tr.tall]at p
    |node a x y b=>
     simp only[Tr.cnt,Tr.wgt]at h;have m:l.tall+a.tall<n:=by simp only[Tr.tall]at hn;omega
     have i:=ih l k v a m ⟨Xh,Xg⟩;have w:=Tr.cnt_join l k v a;have o:=Tr.wgt_join l k v a;have i2:=GR (l:=Tr.join l k v a) (k:=x) (v:=y) (r:=b) ⟨O,O⟩;have i3:=Iw (Tr.join l k v a) x y b ⟨Xh,Xg⟩;simp only;simp only[GC,↓C2,Gy,simprocAttr,GM,Ab e,g,s,j,z,q,u,Ab f,Ab c,Ab d,i,i2,i3]
     (refine As.intro (Am ?_) ?_;first|rfl|simp[AR,AB,GS,Ai,Ac])
     simp only[GC,↓C2,Gy,simprocAttr,GM]
     all_goals exact YR
   ·rw[if_neg p];have u:((l.tall:Int)+1<r.tall)=False:=eq_false O;have i2:=GR (l:=l) (k:=k) (v:=v) (r:=r) ⟨O,O⟩;simp only[GC,↓C2,Gy,simprocAttr,GM,Ab e,g,s,j,z,q,u,Ab c,i2]
    all_goals exact YR
def Re(l:Tr)(k v:Bs)(r:Tr)(h:U9 (.node l k v r)):cX [GK l,.str k,.str v,GK r]=some (GK (Tr.join l k v r)):=aJp _ l k v r (aTe l r k v) h
def T9{a b:Bs}:(CO a b<0)=(GU a b=true):=by
 unfold CO GU;by_cases h:Op.bytesLess a b=true
 ·rw[if_pos h,h];exact propext ⟨λ_=>rfl,λ_=>O⟩
 ·rw[if_neg h];refine propext ⟨λy=>?_,λy=>absurd y h⟩;split at y<;>omega
def UG{a b:Bs}:(0<CO a b)=(GU b a=true):=by
 unfold CO;by_cases h:Op.bytesLess a b=true
 ·rw[if_pos h];have:=CM (a:=a) (b:=b) h;simp only[this];exact propext ⟨λh=>O,λh=>Xd⟩
 ·rw[if_neg h];by_cases e:a=b
  ·subst e;rw[if_pos rfl,Da];exact propext ⟨λh=>O,λh=>Xd⟩
  ·rw[if_neg e];have:=Ll e;have g:GU a b=false:=by simpa using h
   rw[g]at this;have y:GU b a=true:=by
    cases hh:GU b a with
    |true=>rfl
    |false=>rw[hh]at this;cases this
   rw[y];exact propext ⟨λ_=>rfl,λ_=>O⟩
def MD(G:List D->Option D):Gz:=Aq [(62,Ac N9),(202,Ac IB),(203,Ac N_),(138,Ac G)]
def aDi:=RT MD Nl [.t 6] 78
def aNF:Kq aDi 138:=kY (Aj func138) λG h=>Aa lK (Aa MY (Aa fY (Aa h Ad)))
def Mv(k v:Bs):∀t:Tr,(t.put k v).cnt<=1+t.cnt∧(t.put k v).wgt<=4+k.length+v.length+t.wgt
 | .nil=>by simp[Tr.put,Tr.cnt,Tr.wgt]
 | .node l x y r=>by
  have u:=Mv k v l;have f:=Mv k v r;unfold Tr.put;split
  ·rw[Tr.cnt_level,Tr.wgt_level];simp only[Tr.cnt,Tr.wgt];omega
  split
  ·rw[Tr.cnt_level,Tr.wgt_level];simp only[Tr.cnt,Tr.wgt];omega
  ·rename_i c1 p;have e:k=x:=by
    by_cases e:k=x
    ·exact e
    ·have:=Ll e;simp_all
   subst e;simp only[Tr.cnt,Tr.wgt];omega
def aJs:∀(n:Nat)(t:Tr)(k v:Bs),t.tall<n->t.cnt<=800000->t.wgt+k.length+v.length<=800000000000->jN MD Nl [.t 6] 78 n [GK t,.str k,.str v]=some (GK (t.put k v))
 |0,t,k,v,h,_,_=>O
 |n+1,t,k,v,hn,hc,hw=>by
  show RF (MD (jN MD Nl [.t 6] 78 n)) Nl [.t 6] 78 _=_;refine Al (Qa rfl) ?_;have ih:=aJs n;generalize jN MD Nl [.t 6] 78 n=G at ih ⊢;have w:MD G 62=some (Ac N9):=rfl;have c:MD G 202=some (Ac IB):=rfl;have d:MD G 203=some (Ac N_):=rfl;have a:MD G 138=some (Ac G):=rfl;unfold Nl;cases t with
  |nil=>
   have i:=GR (l:= .nil) (k:=k) (v:=v) (r:= .nil) ⟨by simp[Tr.cnt],by simp only[Tr.wgt]at hw ⊢;omega⟩;rw[ID]at i;simp only[Tr.put];simp only[GC,↓C2,Gy,simprocAttr,GM,bne_self_eq_false,Ab c,i]
   all_goals exact YR
  |node l x y r=>
   simp only[Tr.cnt,Tr.wgt,Tr.tall]at hn hc hw;have z:N9 [.str k,.str x]=some (.int .i64 (CO k x)):=rfl;have f:=Mv k v l;have o:=Mv k v r;unfold Tr.put;by_cases c1:GU k x=true
   ·rw[if_pos c1];have q:(CO k x<0)=True:=by rw[T9];exact eq_true c1
    have i:=ih l k v O O O;have m:=GR (l:=l.put k v) (k:=x) (v:=y) (r:=r) ⟨O,O⟩;have s:=Iw (l.put k v) x y r ⟨Xh,Xg⟩;simp only[GC,↓C2,Gy,simprocAttr,GM,Ab w,z,q,Ab a,Ab c,Ab d,i,m,s]
    (refine As.intro (Am ?_) ?_;first|rfl|simp[AR,AB,GS,Ai,Ac])
    simp only[GC,↓C2,Gy,simprocAttr,GM]
    all_goals exact YR
   ·rw[if_neg c1];have q:(CO k x<0)=False:=by rw[T9];exact eq_false c1
    by_cases p:GU x k=true
    ·rw[if_pos p];have u:(0<CO k x)=True:=by rw[UG];exact eq_true p
     have i:=ih r k v O O O;have m:=GR (l:=l) (k:=x) (v:=y) (r:=r.put k v) ⟨O,O⟩;have s:=Iw l x y (r.put k v) ⟨Xh,Xg⟩;simp only[GC,↓C2,Gy,simprocAttr,GM,Ab w,z,q,u,Ab a,Ab c,Ab d,i,m,s]
     (refine As.intro (Am ?_) ?_;first|rfl|simp[AR,AB,GS,Ai,Ac])
     simp only[GC,↓C2,Gy,simprocAttr,GM]
     all_goals exact YR
    ·rw[if_neg p];have u:(0<CO k x)=False:=by rw[UG];exact eq_false p
     have m:=GR (l:=l) (k:=k) (v:=v) (r:=r) ⟨O,O⟩;simp only[GC,↓C2,Gy,simprocAttr,GM,Ab w,z,q,u,Ab c,m]
     (refine As.intro (Am ?_) ?_;first|rfl|simp[AR,AB,GS,Ai,Ac])
     simp only[GC,↓C2,Gy,simprocAttr,GM]
     all_goals exact YR
def aDh(t:Tr)(k v:Bs)(o:t.cnt<=800000)(p:t.wgt+k.length+v.length<=800000000000):aDi [GK t,.str k,.str v]=some (GK (t.put k v)):=
 aJs _ t k v Yx o p
def aBF:=y2 f83 [] []
def aBE:=y2 f89 [] []
def aBD:=y2 f90 [] []
def Mn:=y3 f39 2 [] []
def aBR:=y2 f39 [] [(2,Mn)]
def Mp:=y3 f27 2 [] []
def aBW:=y2 f27 [] [(2,Mp)]
def Ml:=y3 f49 3 [] []
def aBN:=y2 f49 [] [(3,Ml)]
def Mk:=y3 f50 4 [] []
def aBM:=y2 f50 [] [(4,Mk)]
def aBz:=y2 f102 [] []
def aBy:=y2 f103 [] []
def Mg:=y3 f160 2 [] []
def aBv:=y2 f160 [] [(2,Mg)]
def aBL:=y2 f51 [] []
def NY(G:List D->Option D):Gz:=Aq [(202,Ac IB),(203,Ac N_),(158,Ac G)]
def oE:=RT NY Nj [.t 2,.t 3,.t 4] 48
def aAg:Kq oE 158:=kY (Aj func158) λG h=>Aa MY (Aa fY (Aa h Ad))
def aOk(z:Bs×Bs×Tr):D:= .tup [.str z.1,.str z.2.1,GK z.2.2]
def aJq:∀(n:Nat)(l:Tr)(k v:Bs)(r:Tr),(Tr.node l k v r).tall<n->U9 (.node l k v r)->jN NY Nj [.t 2,.t 3,.t 4] 48 n [GK (.node l k v r)]=some (aOk (Tr.first l k v r))
 |0,l,k,v,r,h,_=>O
 |n+1,l,k,v,r,hn,h=>by
  show RF (NY (jN NY Nj [.t 2,.t 3,.t 4] 48 n)) Nj [.t 2,.t 3,.t 4] 48 _=_;refine Al (Qa rfl) ?_;have ih:=aJq n;generalize jN NY Nj [.t 2,.t 3,.t 4] 48 n=G at ih ⊢;have c:NY G 202=some (Ac IB):=rfl;have d:NY G 203=some (Ac N_):=rfl;have e:NY G 158=some (Ac G):=rfl;simp only[U9,Tr.cnt,Tr.wgt]at h;unfold Nj Tr.first;cases l with
  |nil=>
   unfold aOk;simp only[GC,↓C2,Gy,simprocAttr,GM,bne_self_eq_false]
   (refine As.intro (Am ?_) ?_;first|rfl|simp[AR,AB,GS,Ai,Ac])
   simp only[GC,↓C2,Gy,simprocAttr,GM]
   all_goals exact YR
  |node a x y b=>
   simp only[Tr.cnt,Tr.wgt]at h;have i:=ih a x y b (by simp only[Tr.tall]at hn ⊢;omega) ⟨Xh,Xg⟩;have w:=Tr.cnt_first a x y b;have o:=Tr.wgt_first a x y b;unfold aOk at i ⊢;have m:=GR (l:=(Tr.first a x y b).2.2) (k:=k) (v:=v) (r:=r) ⟨O,O⟩;have s:=Iw (Tr.first a x y b).2.2 k v r ⟨Xh,Xg⟩;simp only[GC,↓C2,Gy,simprocAttr,GM,Ab e,i,Ab c,Ab d,m,s]
   (refine As.intro (Am ?_) ?_;first|rfl|simp[AR,AB,GS,Ai,Ac])
   simp only[GC,↓C2,Gy,simprocAttr,GM]
   all_goals exact YR
def cZ(l:Tr)(k v:Bs)(r:Tr)(h:U9 (.node l k v r)):oE [GK (.node l k v r)]=some (.tup [.str (Tr.first l k v r).1,.str (Tr.first l k v r).2.1,GK (Tr.first l k v r).2.2]):=
 aJq _ l k v r (by simp only[iI,D.dep.D.depL,IE];omega) h
def aCZ:=Aq [(158,Ac oE),(233,Ac cX)]
def oD:=RF aCZ aBw [.t 4] 22
def aAf:Kq oD 159:=An (Aj func159) (Aa aAg (Aa aAd Ad))
def cY(l r:Tr)(o:l.cnt+r.cnt<=900000)(k:l.wgt+r.wgt<=900000000000):oD [GK l,GK r]=some (GK (Tr.both l r)):=by
 refine Al (Qa rfl) ?_;unfold aBw;cases r with
 |nil=>
  simp only[GC,↓C2,Gy,simprocAttr,GM,bne_self_eq_false]
  all_goals exact YR
 |node a x y b=>
  simp only[Tr.cnt,Tr.wgt]at o k;have i:=cZ a x y b ⟨Xh,Xg⟩;have w:=Tr.cnt_first a x y b;have q:=Tr.wgt_first a x y b;have m:=Re l (Tr.first a x y b).1 (Tr.first a x y b).2.1 (Tr.first a x y b).2.2 ⟨Xh,Xg⟩;unfold Tr.both;simp only;simp only[GC,↓C2,Gy,simprocAttr,GM,Ae aCZ 158,i,Ae aCZ 233,m]
  all_goals exact YR
def Ra(G:List D->Option D):Gz:=Aq [(233,Ac cX),(157,Ac G)]
def oF:=RT Ra Nk [.t 4,.t 5] 66
def aAh:Kq oF 157:=kY (Aj func157) λG h=>Aa aAd (Aa h Ad)
def aE5(z:Tr×Tr):D:= .tup [GK z.1,GK z.2]
def aJr:∀(n:Nat)(t:Tr)(q:Bs),t.tall<n->U9 t->jN Ra Nk [.t 4,.t 5] 66 n [GK t,.str q]=some (aE5 (t.split q))
 |0,t,q,h,_=>O
 |n+1,t,q,hn,h=>by
  show RF (Ra (jN Ra Nk [.t 4,.t 5] 66 n)) Nk [.t 4,.t 5] 66 _=_;refine Al (Qa rfl) ?_;have ih:=aJr n;generalize jN Ra Nk [.t 4,.t 5] 66 n=G at ih ⊢;have f:Ra G 233=some (Ac cX):=rfl;have a:Ra G 157=some (Ac G):=rfl;unfold Nk;cases t with
  |nil=>
   unfold Tr.split aE5;simp only[GC,↓C2,Gy,simprocAttr,GM,bne_self_eq_false]
   all_goals exact YR
  |node l x y r=>
   simp only[U9,Tr.cnt,Tr.wgt,Tr.tall]at hn h;unfold Tr.split;by_cases c1:GU x q=true
   ·rw[if_pos c1];have i:=ih r q O ⟨O,O⟩;have w:=Tr.cnt_split q r;have o:=Tr.wgt_split q r;have m:=Re l x y (r.split q).1 ⟨Xh,Xg⟩;unfold aE5 at i ⊢;have e:AO .lss (.str x) (.str q)=some (.bool (GU x q)):=rfl;simp only[GC,↓C2,Gy,simprocAttr,GM,e,c1,Ab a,i,Ab f,m]
    (refine As.intro (Am ?_) ?_;first|rfl|simp[AR,AB,GS,Ai,Ac])
    simp only[GC,↓C2,Gy,simprocAttr,GM]
    all_goals exact YR
   ·rw[if_neg c1];have c1:GU x q=false:=by simpa using c1
    have i:=ih l q O ⟨O,O⟩;have w:=Tr.cnt_split q l;have o:=Tr.wgt_split q l;have m:=Re (l.split q).2 x y r ⟨Xh,Xg⟩;unfold aE5 at i ⊢;have e:AO .lss (.str x) (.str q)=some (.bool (GU x q)):=rfl;simp only[GC,↓C2,Gy,simprocAttr,GM,e,c1,Ab a,i,Ab f,m]
    (refine As.intro (Am ?_) ?_;first|rfl|simp[AR,AB,GS,Ai,Ac])
    simp only[GC,↓C2,Gy,simprocAttr,GM]
    all_goals exact YR
def Rg(t:Tr)(q:Bs)(h:U9 t):oF [GK t,.str q]=some (.tup [GK (t.split q).1,GK (t.split q).2]):=
 aJr _ t q Yx h
def aLV:=Aq [(104,Ac MF)]
def aL9:=RF aLV aBz [.t 2] 6
def aNH:Kq aL9 102:=An (Aj func102) (Aa Ub Ad)
def aDk(t:Tr):aL9 [.agg [GK t]]=some (.int .i64 (t.cnt:Nat)):=by
 refine Al (Qa rfl) ?_;unfold aBz;have h:=Ix t;simp only[GC,↓C2,Gy,simprocAttr,GM,Ae aLV 104,h]
 all_goals exact YR
def aLU:=Aq [(172,Ac aDc)]
def aL8:=RF aLU aBy [.t 2] 6
def aNG:Kq aL8 103:=An (Aj func103) (Aa aAe Ad)
def aDj(t:Tr):aL8 [.agg [GK t]]=some (.int .i64 (t.wgt:Nat)):=by
 refine Al (Qa rfl) ?_;unfold aBy;have h:=Rf t;simp only[GC,↓C2,Gy,simprocAttr,GM,Ae aLU 172,h]
 all_goals exact YR
def aLW:=Aq [(138,Ac aDi)]
def oH:=RF aLW aBF [.cell (some 1) 6] 13
def aAj:Kq oH 83:=An (Aj func83) (Aa aNF Ad)
def MG(t:Tr)(k v:Bs)(o:t.cnt<=800000)(p:t.wgt+k.length+v.length<=800000000000):oH [.agg [GK t],.str k,.str v]=some (.agg [GK (t.put k v)]):=by
 refine Al (Qa rfl) ?_;unfold aBF;have h:=aDh t k v o p;simp only[GC,↓C2,Gy,simprocAttr,GM,Ae aLW 138,h]
 all_goals exact YR
def Pq{S:Gz}{q:Bs}{Q:Ex->St->Prop}(j:S 62=some (Ac N9)):∀(t:Tr)(w:St) g,w.s 1= .str q->w.s 6=GK t->(∀v k,t.get q=some v->k.s 4= .str v->k.s 5= .bool true->Q .ret k)->(t.get q=none->∀k,Q (.exit 0) k)->A9 S [] Mp Q w g
 | .nil,w,g,h1,h6,hr,he=>by
  refine Af Mp.eq_1 ?_;simp only[GC,↓C2,Gy,simprocAttr,GM,h1,h6,bne_self_eq_false];exact he rfl _
 | .node l x y r,w,g,h1,h6,hr,he=>by
  have u:=Pq (q:=q) (Q:=Q) j l;have m:=Pq (q:=q) (Q:=Q) j r;have z:N9 [.str q,.str x]=some (.int .i64 (CO q x)):=rfl;refine Af Mp.eq_1 ?_;obtain⟨i,f,b⟩:=w;simp only at h1 h6;unfold Tr.get at hr he;by_cases c1:GU q x=true
  ·rw[if_pos c1]at hr he;have o:(CO q x<0)=True:=by rw[T9];exact eq_true c1
   simp only[GC,↓C2,Gy,simprocAttr,GM,h1,h6,LC,Ab j,z,o];exact u _ _ h1 rfl hr he
  ·rw[if_neg c1]at hr he;have o:(CO q x<0)=False:=by rw[T9];exact eq_false c1
   by_cases p:GU x q=true
   ·rw[if_pos p]at hr he;have c:(0<CO q x)=True:=by rw[UG];exact eq_true p
    simp only[GC,↓C2,Gy,simprocAttr,GM,h1,h6,Ab j,z,o,c];exact m _ _ h1 rfl hr he
   ·rw[if_neg p]at hr he;have c:(0<CO q x)=False:=by rw[UG];exact eq_false p
    simp only[GC,↓C2,Gy,simprocAttr,GM,h1,h6,Ab j,z,o,c];exact hr y _ rfl rfl rfl
def aL6:=Aq [(62,Ac N9)]
def aDQ:=RF aL6 aBW [.t 4,.t 5] 36
def aAm:Kq aDQ 27:=An (Aj func27) (Aa lK Ad)
def dF(t:Tr)(q:Bs):aDQ [.agg [GK t],.str q]=some (.tup [.str ((t.get q).getD []),.bool (t.get q).isSome]):=by
 refine Al (Qa rfl) ?_;have r:aL6 62=some (Ac N9):=rfl;unfold aBW;simp only[GC,↓C2,Gy,simprocAttr,GM];refine Pq (q:=q) r t _ _ rfl rfl (λv k o n c=>?_) (λo k=>?_)
 ·rw[o];simp only[GC,↓C2,Gy,simprocAttr,n,c]
  all_goals exact YR
 ·rw[o];simp only[GC,↓C2,Gy,simprocAttr]
  all_goals exact YR
def Pp{S:Gz}{q:Bs}{Q:Ex->St->Prop}(z:S 104=some (Ac MF)):∀(t:Tr)(r:Nat)(v:St) g,t.cnt<=900000->r+t.cnt<=900000->v.s 1= .str q->v.s 5= .int .i64 (r:Int)->v.s 6=GK t->(∀k,k.s 5= .int .i64 ((r+t.rank q:Nat):Int)->Q (.exit 0) k)->A9 S [] Ml Q v g
 | .nil,r,v,g,hc,hr,h1,h5,h6,he=>by
  refine Af Ml.eq_1 ?_;simp only[GC,↓C2,Gy,simprocAttr,GM,h1,h6,bne_self_eq_false];exact he _ h5
 | .node l x y t,r,v,g,hc,hr,h1,h5,h6,he=>by
  have i:=Pp (q:=q) (Q:=Q) z l;have n:=Pp (q:=q) (Q:=Q) z t;have a:=Ix l;simp only[Tr.cnt]at hc hr;have j:IntKind.i64.wrap (1+(l.cnt:Int))=((1+l.cnt:Nat):Int):=Xi
  have m:IntKind.i64.wrap ((r:Int)+((1+l.cnt:Nat):Int))=((r+(1+l.cnt):Nat):Int):=Xi
  refine Af Ml.eq_1 ?_;obtain⟨p,f,b⟩:=v;simp only at h1 h5 h6;have e:AO .lss (.str x) (.str q)=some (.bool (GU x q)):=rfl;unfold Tr.rank at he;by_cases c1:GU x q=true
  ·rw[if_pos c1]at he;simp only[GC,↓C2,Gy,simprocAttr,GM,h1,h5,h6,LC,e,c1,Ab z,a,j,m];exact n (r+(1+l.cnt)) _ _ O O h1 rfl rfl (λk h=>he k (by rw[h];congr 2;omega))
  ·rw[if_neg c1]at he;have c1:GU x q=false:=by simpa using c1
   simp only[GC,↓C2,Gy,simprocAttr,GM,h1,h5,h6,LC,e,c1];exact i r _ _ O O h1 h5 rfl he
def aL3:=Aq [(104,Ac MF)]
def aMd:=RF aL3 aBN [.t 4] 34
def aNV:Kq aMd 49:=An (Aj func49) (Aa Ub Ad)
def aDD(t:Tr)(q:Bs)(o:t.cnt<=900000):aMd [.agg [GK t],.str q]=some (.int .i64 (t.rank q:Nat)):=by
 refine Al (Qa rfl) ?_;have z:aL3 104=some (Ac MF):=rfl;unfold aBN;simp only[GC,↓C2,Gy,simprocAttr,GM];refine Pp (q:=q) z t 0 _ _ o O rfl rfl rfl (λk h=>?_);rw[Qj]at h;simp only[GC,↓C2,Gy,simprocAttr,h]
 all_goals exact YR
def atD(z:Option (Bs×Bs)):D:= .tup [.str (z.getD ([],[])).1,.str (z.getD ([],[])).2,.bool z.isSome]
def Po{S:Gz}{Q:Ex->St->Prop}(z:S 104=some (Ac MF)):∀(t:Tr)(i:Nat)(w:St) g,t.cnt<=900000->i<=900000->w.s 1= .int .i64 (i:Int)->w.s 7=GK t->(∀k v q,t.at_ i=some (k,v)->q.s 4= .str k->q.s 5= .str v->q.s 6= .bool true->Q .ret q)->(t.at_ i=none->∀q,Q (.exit 0) q)->A9 S [] Mk Q w g
 | .nil,i,w,g,hc,hi,h1,h7,hr,he=>by
  refine Af Mk.eq_1 ?_;simp only[GC,↓C2,Gy,simprocAttr,GM,h1,h7,bne_self_eq_false];exact he rfl _
 | .node l x y r,i,w,g,hc,hi,h1,h7,hr,he=>by
  have u:=Po (Q:=Q) z l;have n:=Po (Q:=Q) z r;have a:=Ix l;simp only[Tr.cnt]at hc;have j:IntKind.i64.wrap ((l.cnt:Int)+1)=(l.cnt:Int)+1:=GZ O O;refine Af Mk.eq_1 ?_;obtain⟨ma,f,b⟩:=w;simp only at h1 h7;unfold Tr.at_ at hr he;by_cases c1:i<l.cnt
  ·rw[if_pos c1]at hr he;have o:((i:Int)<l.cnt)=True:=eq_true O;simp only[GC,↓C2,Gy,simprocAttr,GM,h1,h7,LC,Ab z,a,o];exact u i _ _ O hi h1 rfl hr he
  ·rw[if_neg c1]at hr he;have o:((i:Int)<l.cnt)=False:=eq_false O;by_cases p:l.cnt<i
   ·rw[if_pos p]at hr he;have c:((l.cnt:Int)<i)=True:=eq_true O;have m:IntKind.i64.wrap ((i:Int)-((l.cnt:Int)+1))=((i-(l.cnt+1):Nat):Int):=by rw[GZ O O];omega
    simp only[GC,↓C2,Gy,simprocAttr,GM,h1,h7,LC,Ab z,a,o,c,j,m];exact n (i-(l.cnt+1)) _ _ O O rfl rfl hr he
   ·rw[if_neg p]at hr he;have c:((l.cnt:Int)<i)=False:=eq_false O;simp only[GC,↓C2,Gy,simprocAttr,GM,h1,h7,LC,Ab z,a,o,c]
    (refine As.intro (Am ?_) ?_;first|rfl|simp[AR,AB,GS,Ai,Ac])
    simp only[GC,↓C2,Gy,simprocAttr,GM];exact hr x y _ rfl rfl rfl rfl
def aL2:=Aq [(104,Ac MF)]
def aMc:=RF aL2 aBM [.t 4,.t 5,.t 6] 48
def aNU:Kq aMc 50:=An (Aj func50) (Aa Ub Ad)
def aDC(t:Tr)(i:Nat)(o:t.cnt<=900000)(hi:i<=900000):aMc [.agg [GK t],.int .i64 (i:Nat)]=some (atD (t.at_ i)):=by
 refine Al (Qa rfl) ?_;have z:aL2 104=some (Ac MF):=rfl;unfold aBM;have f:((i:Int)<0)=False:=eq_false O;simp only[GC,↓C2,Gy,simprocAttr,GM,f];refine Po z t i _ _ o hi rfl rfl (λk v q a n c g=>?_) (λa q=>?_)
 ·rw[a];unfold atD;simp only[GC,↓C2,Gy,simprocAttr,n,c,g]
  all_goals exact YR
 ·rw[a];unfold atD;simp only[GC,↓C2,Gy,simprocAttr]
  all_goals exact YR
def cB(x:UInt8):∀l:Bs,Tr.beyB (l++[x])=if x<255 then some (l++[x+1])else Tr.beyB l
 |[]=>by
  show(match Tr.beyB []with|some e=>some (x::e)|none=>if x<255 then some [x+1]else none)=_;rfl
 |y::l=>by
  have ih:=cB x l;show(match Tr.beyB (l++[x])with|some e=>some (y::e)|none=>if y<255 then some [y+1]else none)=_;rw[ih];by_cases c:x<255
  ·rw[if_pos c,if_pos c];rfl
  ·rw[if_neg c,if_neg c];rfl
def Wg{S:Gz}{p:Bs}{Q:Ex->St->Prop}(hp:p.length<=1000000):∀(j:Nat)(v:St) g,j<=p.length->v.s 0= .str p->v.s 4= .int .i64 ((j:Int)-1)->(∀e k,Tr.beyB (p.take j)=some e->k.s 2= .str e->k.s 3= .bool true->Q .ret k)->(Tr.beyB (p.take j)=none->∀k,Q (.exit 0) k)->A9 S [] Mg Q v g
 |0,v,g,hj,h0,h4,hr,he=>by
  refine Af Mg.eq_1 ?_;have y:v.s 4= .int .i64 (-1):=h4;have o:((0:Int)<=-1)=False:=eq_false V;simp only[GC,↓C2,Gy,simprocAttr,h0,y,o];exact he rfl _
 |j+1,v,g,hj,h0,h4,hr,he=>by
  have ih:=Wg (S:=S) (Q:=Q) hp j;refine Af Mg.eq_1 ?_;obtain⟨i,t,b⟩:=v;simp only at h0 h4;have a:((j+1:Nat):Int)-1=(j:Int):=O
  rw[a]at h4;have o:((0:Int)<=(j:Int))=True:=eq_true O;have q:p[j]?=some (p[j]' O):=Qd O;generalize (p[j]' O)=x at q;have r:p.take (j+1)=p.take j++[x]:=by rw[List.take_add_one,q];rfl
  rw[r,cB]at hr he;have n:IntKind.i64.wrap ((j:Int)-1)=(j:Int)-1:=GZ O O;by_cases c:x<255
  ·rw[if_pos c]at hr he;have c':x.toNat<255:=c;have u:((x.toNat:Int)<255)=True:=eq_true O;have m:IntKind.u8.wrap ((x.toNat:Int)+1)=((x.toNat+1:Nat):Int):=by
    show((x.toNat:Int)+1) % 256=_;omega
   have w:UInt8.ofNat (x.toNat+1)=x+1:=by
    apply UInt8.toNat_inj.1;rw[UInt8.toNat_ofNat',UInt8.toNat_add];rfl
   have d:((j:Int)<=p.length)=True:=eq_true O;have f:AO .add (.str (p.take j)) (.str [x+1])=some (.str (p.take j++[x+1])):=Iv (by rw[Za];simp only[Qb,Qg];omega);simp only[GC,↓C2,Gy,simprocAttr,h0,h4,o,d,q,u,m,w,Qm,QK,Q2,and_self,f]
   (refine As.intro (Am ?_) ?_;first|rfl|simp[AR,AB,GS,Ai,Ac])
   simp only[GC,↓C2,Gy,simprocAttr];exact hr _ _ rfl rfl rfl
  ·rw[if_neg c]at hr he;have c':¬x.toNat<255:=c;have u:((x.toNat:Int)<255)=False:=eq_false O;simp only[GC,↓C2,Gy,simprocAttr,h0,h4,o,q,u,n,Qm];exact ih _ _ O h0 rfl hr he
def aL1:=Aq [(105,Ac uU)]
def aMb:=RF aL1 aBL [.t 4] 8
def aNT:Kq aMb 51:=An (Aj func51) (Aa aIP Ad)
def aDB(s t:Bs):aMb [.str s,.str t]=some (.bool (BX s t)):=by
 refine Al (Qa rfl) ?_;unfold aBL;have h:uU [.str s,.str t]=some (.bool (BX s t)):=rfl;simp only[GC,↓C2,Gy,simprocAttr,Ae aL1 105,h]
 all_goals exact YR
theorem mZ{a:Ak}:∀{l:Bs} {b:Ak},(I_ a b l).1=0->∀c∈l,Bb a (c.toNat:Int)=0
 |[],b,h,c,hc=>by cases hc
 |x::r,b,h,c,hc=>by
  unfold I_ at h;split at h
  ·omega
  ·rename_i u;rcases Qn.1 hc with rfl|hc
   ·exact Decidable.not_not.1 u
   ·exact mZ h c hc
def NU{a:Ak}(h:BO a=0){c:UInt8}(o:c∈Bj a.op):Bb a (c.toNat:Int)=0:=by
 grind [BO,mZ]
def PT{a:Ak}(h:BO a=0)(o:(112:UInt8)∈Bj a.op):AP a.pa=0:=NU h o
def bS{a:Ak}(h:BO a=0)(o:(113:UInt8)∈Bj a.op):AP a.ot=0:=NU h o
def rE:∀op:Nat,9<=op->op<=18->(112:UInt8)∈Bj (op:Int):=by
 intro op u y;have:∀op,op<19->9<=op->(112:UInt8)∈Bj (op:Nat):=Xj
 exact this op O u
def aFu{a:Ak}(h:BO a=0)(u:9<=a.op)(y:a.op<=18):AP a.pa=0:=by
 have:=rE a.op.toNat O O;rw[QW O]at this;exact PT h this
def yA{a:Ak}(h:BO a=0)(u:a.op=18):AP a.ot=0:=by
 refine bS h ?_;rw[u];decide+kernel
theorem Cn{s:Bs}(h:AP s=0):s.length<=64:=by
 grind [AP]
def aQx{y:Ry}(h:LE y=0):Hg y≠[]:=by
 unfold Hg;rw[if_pos h];intro e;have f:=wS y;cases y<;>simp[NB,spJ,Lib.join]at e<;>(try split at e)<;>simp[]at e
def Gr(s:Bs):Prop:=∃y,LE y=0∧ryN y∧s=Hg y
def Gr.ne{s:Bs}:Gr s->s≠[]:=λ⟨y,h,_,e⟩=>by rw[e];exact aQx h
def U7(s:Bs):Prop:=∀c∈s,c≠32∧c≠44
def bR{s:Bs}(h:∀j,j<s.length->GT s j≠32∧GT s j≠44):U7 s:=λc o=>by
 obtain⟨j,u,rfl⟩:=QI o;have:=h j u;unfold GT at this;rw[QO,Qd u]at this;simp only[Q4]at this;exact⟨λe=>by rw[e]at this;exact this.1 rfl,λe=>by rw[e]at this;exact this.2 rfl⟩
theorem sK{s:Bs}(h:U7 s):PF s 32=false∧PF s 44=false:=by
 constructor<;>(unfold PF;rw[Zj];intro c o;simp only[beq_iff_eq])
 ·exact(h c o).1
 ·exact(h c o).2
def fE{s:Bs}(h:U7 s)(u:s≠[])(y:s≠[45])(p:s.length<=64):fF s=true:=by
 grind [fF,sK]
def fH{s:Bs}{i:Nat}(hi:i<s.length)(h:EI (FR s i).1=true):1<=(FR s i).2∧∀j,i<=j->j<i+(FR s i).2->GT s j≠32∧GT s j≠44:=by
 grind [P1,FG,FR,EI]
def NA{s:Bs}:∀(f p n:Nat),s.length<=p+f->Ee s f p n≠4->∀j,p<=j->j<s.length->GT s j≠32∧GT s j≠44
 |0,p,n,hf,h,j,h1,h2=>O
 |f+1,p,n,hf,h,j,h1,h2=>by
  unfold Ee at h;rw[if_pos O]at h;split at h
  ·rename_i x;obtain⟨k,o⟩:=fH O x;by_cases u:j<p+(FR s p).2
   ·exact o j h1 u
   ·exact NA f _ _ O h j O h2
  ·exact absurd rfl h
def eY{s:Bs}(h:FN s=0):U7 s∧s≠[]∧s≠[45]:=by
 unfold FN at h;split at h
 ·cases h
 ·rename_i u;exact⟨bR λj z=>NA s.length 0 0 O (by rw[h];decide) j (Qf _) z,λe=>u (.inl e),λe=>u (.inr (.inr (.inr e)))⟩
theorem grade_parts:∀{l:List Bs} {w:Bool},Fw w l=some false->∀p∈l,FN p=0
 |[],w,h,p,hp=>by cases hp
 |x::r,w,h,p,hp=>by
  unfold Fw at h;split at h
  ·cases h
  ·rename_i u;have c:∀{w:Bool} {l:List Bs},Fw w l=some false->w=false:=by
    intro w l;induction l generalizing w with
    |nil=>intro h;simpa[Fw]using h
    |cons y t ih=>
     intro h;unfold Fw at h;split at h
     ·cases h
     ·grind
   rcases Qn.1 hp with rfl|hp
   ·grind [NJ]
   ·exact grade_parts h p hp
def VI{s:Bs}(h:AP s=0):∀p∈splitC 47 s,FN p=0:=by
 grind [AP,Im,grade_parts]
def R5:∀(a b:Bs),splitC 47 (a++47::b)=splitC 47 a++splitC 47 b
 |[],b=>by
  show splitC 47 (47::b)=_
  conv=>lhs;unfold splitC
  rfl
 |c::r,b=>by
  have ih:=R5 r b;show splitC 47 (c::(r++47::b))=_
  conv=>lhs;unfold splitC
  conv=>rhs;arg 1;unfold splitC
  rw[ih];split
  ·rfl
  ·grind [splitC,Dd]
def R6:∀(s:Bs),∃t,splitC 47 s=(Bv s 47).1::t∧((Bv s 47).2.2=true->(Bv s 47).1.length+1<=s.length)∧((Bv s 47).2.2=false->(Bv s 47).1=s)
 |[]=>⟨[],rfl,λh=>by simp[Bv,Lib.indexByte]at h,λ_=>rfl⟩
 |c::r=>by
  obtain⟨t,u,y,p⟩:=R6 r;by_cases o:c=47
  ·subst o;have e:Lib.indexByte (47::r) 47=0:=by unfold Lib.indexByte;simp
   refine⟨splitC 47 r,?_,?_,?_⟩
   ·simp_all [Bv,splitC]
   ·grind [Bv]
   ·grind [Bv]
  ·have z:(c==47)=false:=by simpa using o
   unfold splitC;rw[if_neg o,u];refine⟨t,?_⟩;have e:Lib.indexByte (c::r) 47=if Lib.indexByte r 47==-1 then-1 else Lib.indexByte r 47+1:=by
    conv=>lhs;unfold Lib.indexByte
    rw[z];rfl
   rcases gC r 47 with e1|⟨e1,m⟩
   ·have f:Bv r 47=(r,[],false):=by unfold Bv;rw[e1];rfl
    have w:Bv (c::r) 47=(c::r,[],false):=by unfold Bv;rw[e,e1];rfl
    rw[f,w];exact⟨rfl,λh=>Xd,λ_=>rfl⟩
   ·have a:(Lib.indexByte r 47==-1)=false:=by rw[beq_eq_false_iff_ne];omega
    have n:Lib.indexByte (c::r) 47=Lib.indexByte r 47+1:=by rw[e,a];rfl
    generalize v:Lib.indexByte r 47=q at *;have b:(q+1).toNat=q.toNat+1:=O
    have f:Bv r 47=(r.take q.toNat,r.drop (q.toNat+1),true):=by unfold Bv;rw[v,if_neg O]
    have w:Bv (c::r) 47=(c::r.take q.toNat,r.drop (q.toNat+1),true):=by unfold Bv;rw[n,if_neg O,b];rfl
    rw[f,w];refine⟨rfl,λ_=>?_,λh=>Xd⟩;simp only[Qb,Za];omega
def tK{s z:Bs}(h:Cs s z=true):C6 s z=s∨s=z++47::C6 s z:=by
 unfold Cs at h;unfold C6;by_cases k:z=[]
 ·simp_all
 ·rw[if_neg k]at h ⊢;rw[QB]at h;rw[if_pos h.1,if_pos h.2];right;have u:s.take z.length=z:=by simpa[BX]using h.1
  have y:(s.drop z.length).take 1=[47]:=by simpa[BX]using h.2
  have j:s=z++s.drop z.length:=by
   conv=>lhs;rw[←Q_ z.length s,u]
  have m:s.drop z.length=47::(s.drop z.length).drop 1:=by
   conv=>lhs;rw[←Q_ 1 (s.drop z.length),y]
   rfl
  conv=>lhs;rw[j,m]
theorem iN{s z:Bs}(n:AP s=0)(h:(Cc s z).2=true):fF (Cc s z).1=true:=by
 have r:=Cn n;have g:=VI n;have m:Cs s z=true:=by
  grind [Cc]
 have a:=tK m;have hl:=Sg s z;obtain⟨t,j,b,f⟩:=R6 (C6 s z);have q:(Bv (C6 s z) 47).1∈splitC 47 s:=by
  rcases a with e|e
  ·simp_all
  ·rw[e,R5,←e,j];exact List.mem_append_right _ (Qo ..)
 obtain⟨c1,p,w⟩:=eY (g _ q);unfold Cc;rw[if_neg (by rw[m];decide)];split
 ·rename_i u;have:=b u;refine fE (λc o=>?_) U (λe=>?_) Xc
  ·rcases QH.1 o with h|h
   ·exact c1 c h
   ·simp_all
  ·have:=congrArg ZP e;simp at this
 ·rename_i u;have:=f Xu;rw[this]at c1 p w;exact fE c1 p w (show(C6 s z).length<=64 by omega)
def Pe{s:Bs}:∀(f p:Nat),s.length<=p+f->L4 s f p=true->∀j,p<=j->j<s.length->DT (GT s j)=true
 |0,p,hf,h,j,h1,h2=>O
 |f+1,p,hf,h,j,h1,h2=>by
  unfold L4 at h;rw[if_pos O,QB]at h;by_cases e:j=p
  ·rw[e];exact h.1
  ·exact Pe f (p+1) O h.2 j O h2
def aFG{s:Bs}(h:BM s=true):fF s=true:=by
 unfold BM at h;simp only[QB,decide_eq_true_eq]at h;have o:∀j,j<s.length->DT (GT s j)=true:=λj u=>Pe s.length 0 O h.2 j (Qf _) u
 have m:∀j,j<s.length->GT s j≠32∧GT s j≠44∧GT s j≠45:=λj u=>by
  have:=o j u;unfold DT at this;simp only[Zt,decide_eq_true_eq]at this;omega
 refine fE (bR λj u=>⟨(m j u).1,(m j u).2.1⟩) (λe=>by rw[e]at h;simp at h) (λe=>?_) O;have:=(m 0 O).2.2;rw[e]at this;exact this rfl
def bP{zs:List Bs}{x:Bs}(h:x∈Lib.compact zs):x∈zs:=by
 unfold Lib.compact Lib.compactUpTo at h;obtain⟨j,z,rfl⟩:=Qp.1 h;have u:=List.mem_range.1 (QQ.1 z).1;rw[getElem!_pos _ _ Xu];simp
def Tm{l:List Bs}{x:Bs}(h:x∈eN l):x∈l:=(ZB l _).mem_iff.1 h
theorem aOC{z:Bs}{l:List Bs}{x:Bs}(h:x∈nC z l):∃s∈l,(Cc s z).2=true∧(Cc s z).1=x:=by
 have:=Tm (bP h);unfold FT at this;obtain⟨s,r,e⟩:=List.mem_filterMap.1 this;split at e
 ·simp_all
 ·cases e
def aOD(z:Bs)(l:List Bs):(nC z l).length<=l.length:=by
 unfold nC;refine QG (Lib.compact_length_le _) ?_;unfold eN;rw[Qr];exact Q5 _ _
theorem NI{l:List Bs}{s:Bs}(h:s∈BW l):AP s=0:=by
 grind [BW,Dv,B4]
def qE(l:List Bs):(BW l).length<=l.length:=Q5 _ _
def aCg(z:Bs)(l:List Bs):(((nC z (BW l)).take 64).any λs=>!fF s)=false:=by
 grind [aOC,iN,NI]
def rA(l:List Bs):0<=Im l∧Im l<=99:=by
 grind [Im]
def II(s:Bs):0<=AP s∧AP s<=99:=by
 unfold AP;split
 ·decide
 ·exact rA _
def aAW(b:Bool):0<=BD b∧BD b<=99:=by cases b<;>decide
def wY(r:Rl)(l:List Rl):0<=Hw r l∧Hw r l<=99:=by
 unfold Hw;have:=II r.1
 repeat' split
 all_goals omega
def Sd(l:List Rl):∀f j,0<=DR l f j∧DR l f j<=99
 |0,j=>by unfold DR;decide
 |f+1,j=>by
  unfold DR;have:=wY (CL l j) (l.take j);have:=Sd l f (j+1)
  repeat' split
  all_goals omega
def TH(l:List Rl):0<=B3 l∧B3 l<=99:=by
 unfold B3;have:=Sd l l.length 0;split<;>omega
def SN(a:Ak)(c:Int):0<=Bb a c∧Bb a c<=99:=by
 unfold Bb;have:=II a.pa;have:=II a.ot;have:=TH a.rs
 repeat' split
 all_goals first|exact aAW _|omega
def nB(a:Ak):∀(l:Bs)(b:Ak),0<=(I_ a b l).1∧(I_ a b l).1<=99
 |[],b=>by unfold I_;simp
 |c::r,b=>by
  unfold I_;have:=SN a (c.toNat:Int);have:=nB a r (CY b (c.toNat:Int));split<;>omega
def sL(a:Ak):0<=BO a∧BO a<=99:=by
 unfold BO;have:=nB a (Bj a.op) (HH a)
 repeat' split
 all_goals omega
def lA(v:Vw)(a:Ak):0<=EH v a∧EH v a<=99:=by
 unfold EH;have:=sL a
 repeat' split
 all_goals omega
def iO{v:Vw}{a:Ak}(h:EH v a=0):BO a=0:=by
 grind [EH]
def aQK{a:Ak}(h:BO a=0)(f:0<=a.op):1<=a.op∧a.op<=18:=by
 have s:A2 a.op≠[]:=λe=>by unfold BO at h;rw[if_pos e]at h;cases h
 unfold A2 at s;have u:a.op.toNat<19:=by
  rcases ZR a.op.toNat 19 with h|h
  ·exact h
  ·simp_all [PJ]
 have y:a.op.toNat≠0:=λe=>by rw[e]at s;exact s rfl
 omega
def aE3(n p:Bs)(l:List Rl):0<=LP n p l∧LP n p l<=99:=by
 unfold LP;have:=TH l
 repeat' split
 all_goals omega
def R1{n p:Bs}{l:List Rl}(h:LP n p l=0):BM n=true:=by
 grind [LP]
def zC(l:List Tk)(k:Tk):((∃q,Ic l k=(some q,0))∧LP k.1 k.2.1 k.2.2.2=0∧k.2.1≠[]∧AV l k.1=false∧AV l k.2.1=true∧(Ic l k).1=some (E0 l k))∨((Ic l k).1=none∧1<=(Ic l k).2∧(Ic l k).2<=99):=by
 unfold Ic;have h:=aE3 k.1 k.2.1 k.2.2.2;by_cases u:LP k.1 k.2.1 k.2.2.2≠0
 ·rw[if_pos u];exact .inr ⟨rfl,Xb⟩
 rw[if_neg u];by_cases y:k.2.1=[]
 ·rw[if_pos y];exact .inr ⟨rfl,V,V⟩
 rw[if_neg y];by_cases p:AV l k.1=true
 ·rw[if_pos p];exact .inr ⟨rfl,V,V⟩
 rw[if_neg p];by_cases n:AV l k.2.1=false
 ·rw[if_pos n];exact .inr ⟨rfl,V,V⟩
 rw[if_neg n];by_cases c:Gn k.2.2.2 (Bf l (HG l k.2.1)).2.2.2=false
 ·rw[if_pos c];exact .inr ⟨rfl,V,V⟩
 rw[if_neg c];exact .inl ⟨⟨_,rfl⟩,Decidable.not_not.1 u,y,XN,by simpa using n,rfl⟩
structure RQ (l:List Tk):Prop where
 sort:F7 l
 tree:∃r,Hm l r∧r []=0
 name:∀k∈l,BM k.1=true
 par:∀k∈l,k.2.1=[]∨∃u∈l,u.1=k.2.1
 nop:∀k∈l,k.2.1=[]->k.1=[114,111,111,116]
 rt:∀k∈l,k.1=[114,111,111,116]->k.2.2.2=[([],63)]
def RQ.root{l:List Tk}(h:RQ l){t:Tk}(j:t∈l):∃k∈l,k.1=[114,111,111,116]:=by
 obtain⟨r,c,_⟩:=h.tree;have z:∀(n:Nat)(t:Tk),t∈l->r t.1<=n->∃k∈l,k.1=[114,111,111,116]:=by
  intro n;induction n with
  |zero=>
   intro t j g;have:=c.up t j;omega
  |succ n ih=>
   intro t j g;rcases h.par t j with e|⟨u,v,e⟩
   ·exact⟨t,j,h.nop t j e⟩
   ·have:=c.up t j;exact ih u v (by rw[e];omega)
 exact z _ t j (Qe _)
def pN{l:List Tk}(h:F7 l):l.Pairwise λt u=>t.1≠u.1:=by
 rw[QD];intro i j hi p z e;have:=h i j z p;unfold Bf at this;rw[QO,QO,Qd hi,Qd p]at this;simp only[Q4]at this;rw[e,bl_irr]at this;cases this
def Nd{l:List Tk}{s:Bs}(h:AV l s=true):∃k∈l,k.1=s:=by
 grind [AV,Nm,O2]
def aAP{l:List Tk}{s:Bs}(r:F7 l)(h:AV l s=false):∀k∈l,k.1≠s:=λk w e=>by
 obtain⟨j,u,rfl⟩:=QI w;have:=(WH r u).2;unfold Bf at this;rw[QO,Qd u]at this;simp only[Q4]at this;rw[e,h]at this;cases this
def TW{s:Bs}(h:BM s=true):s≠[]:=λe=>by rw[e]at h;cases h
def Dr{l:List Tk}{k x:Tk}:x∈E0 l k↔x∈l∨x=k:=by
 unfold E0;rw[QH,Qn];constructor
 ·grind
 ·rintro(h|h)
  ·rw[←Q_ (HG l k.1) l,QH]at h;rcases h with h|h
   ·exact .inl h
   ·exact .inr (.inr h)
  ·exact .inr (.inl h)
def Vg(l:List Tk)(k:Tk):(E0 l k).length=l.length+1:=by
 grind [E0]
def aAz{l:List Tk}{k:Tk}(h:RQ l)(q:LP k.1 k.2.1 k.2.2.2=0)(y:AV l k.1=false)(o:AV l k.2.1=true):RQ (E0 l k):=by
 obtain⟨r,n,f⟩:=h.tree;have g:=R1 q;have i:F7 (E0 l k):=pP h.sort y;have a:=aAP h.sort y;obtain⟨u,v,c⟩:=Nd o;have ra:k.2.1≠k.1:=λe=>a u v (c.trans e)
 refine⟨i,⟨λs=>if s=k.1 then l.length+1 else r s,⟨λt ht=>?_,λt ht=>?_,pN i⟩,?_⟩,λt ht=>?_,λt ht=>?_,λt ht z=>?_,λt ht z=>?_⟩
 ·rcases Dr.1 ht with ht|rfl
  ·have j:t.1≠k.1:=a t ht;have m:t.2.1≠k.1:=λe=>by
    rcases h.par t ht with e3|⟨x,p,e3⟩
    ·simp_all [TW,e3]
    ·exact a x p (e3.trans e)
   simp only[if_neg j,if_neg m];exact n.up t ht
  ·simp only[if_neg ra,if_true];have:=n.top u v;rw[c]at this;omega
 ·rw[Vg];rcases Dr.1 ht with ht|rfl
  ·simp only[if_neg (a t ht)];have:=n.top t ht;omega
  ·simp
 ·simp_all [Bs,TW]
 ·rcases Dr.1 ht with ht|rfl
  ·exact h.name t ht
  ·exact g
 ·rcases Dr.1 ht with ht|rfl
  ·rcases h.par t ht with e|⟨x,p,e⟩
   ·exact .inl e
   ·exact .inr ⟨x,Dr.2 (.inl p),e⟩
  ·exact .inr ⟨u,Dr.2 (.inl v),c⟩
 ·rcases Dr.1 ht with ht|rfl
  ·exact h.nop t ht z
  ·exact absurd (c.trans z) (TW (h.name u v))
 ·rcases Dr.1 ht with ht|rfl
  ·exact h.rt t ht z
  ·obtain⟨x,p,e⟩:=h.root v;exact absurd (e.trans z.symm) (a x p)
def aJV:=y0 Tryz.f165 [] []
def Uv:=y1 Tryz.f99 5 [] []
def aKq:=y0 Tryz.f99 [] [(5,Uv)]
def aAI:∀d,d<10->(Fv d).toNat=48+d:=V
def aVQ:=Aq []
def aPh:=RF aVQ aJV [.t 2] 24
def aSk:Kq aPh 165:=An (Aj func165) Ad
def aAH:∀d,d<16->10<=d->(Fv d).toNat=87+d:=V
def w8{x:Int}(f:0<=x)(u:x<256):IntKind.u8.wrap x=x:=by show x % 256=x;omega
def orE:∀x:Nat,x<16->∀y:Nat,y<16->IntKind.u8.wrap (bits .or .i64 (IntKind.i64.wrap ((x:Int)*2 ^ min (4:Int).toNat IntKind.i64.bits)) (y:Int))=((16*x+y:Nat):Int):=V
def aT6:=Aq [(165,Ac aPh)]
def aPv:=RF aT6 aKq [.t 2,.t 3] 47
def aSC:Kq aPv 99:=An (Aj func99) (Aa aSk Ad)
def opV(x:Op1):Prop:=x.2.1.length<=100∧x.2.2.length<=400∧((x.1=1∧x.2.1≠[])∨(x.1=2∧x.2.1≠[]∧x.2.2=[])∨(x.1=3∧x.2.2=[]))
def aF7(k:Int)(p:Bs)(n:Int):(A_ k p n).length<=p.length+8:=by
 unfold A_
 repeat' split
 all_goals (first|(simp only[Qh,Qb,Qg];omega)|exact Qf _)
def opK(x:Op1):Prop:=opV x∧(x.1≠3->B4 (BS x.2.1).1 (BS x.2.1).2.1 (BS x.2.1).2.2=0)
theorem PE(p s:Bs):BX (p++s) p=true:=by simp[BX]
def eQ{s:Bs}(h:AP s=0):1<=s.length:=by
 cases s with
 |nil=>exact absurd h V
 |cons c s=>simp
def SF{k n:Int}{name:Bs}(h:B4 k name n=0):BS (A_ k name n)=(k,name,n):=by
 unfold A_;rw[if_neg (λe=>e h)];unfold B4 at h;by_cases u:k=1
 ·grind [BS,PE]
 rw[if_neg u]at h ⊢;by_cases y:k=2
 ·subst y;rw[if_pos rfl]at h;split at h
  ·rename_i c;obtain⟨n1,n2,hr⟩:=c;have hl:=eQ hr;rw[if_pos rfl];have z:(IntKind.u8.wrap n).toNat=n.toNat:=by
    have:IntKind.u8.wrap n=n:=by show n % 256=n;omega
    rw[this]
   rw[z];have s:([100,47]++name++[0,UInt8.ofNat n.toNat]).drop 2=name++[0,UInt8.ofNat n.toNat]:=U
   have r:(name++[0,UInt8.ofNat n.toNat]).length=name.length+2:=U
   unfold BS;have j:(name++[0,UInt8.ofNat n.toNat]).take (name.length+2-2)=name:=U
   have m:(name++[0,UInt8.ofNat n.toNat]).getD (name.length+2-1) 0=UInt8.ofNat n.toNat:=by simp[Qz]
   have t:(name++[0,UInt8.ofNat n.toNat]).getD (name.length+2-2) 0=0:=by simp[Qz]
   have f:(((UInt8.ofNat n.toNat).toNat:Nat):Int)=n:=by
    rw[UInt8.toNat_ofNat'];omega
   rw[s,r,if_neg U,if_neg U,if_neg (by simp[BX]),if_neg (by simp[BX]),if_pos ⟨by rw[Q0];exact PE _ _,O,t⟩,j,m,f]
  ·cases h
 rw[if_neg y]at h ⊢;by_cases p:k=3
 ·simp_all [BS,BX,PE]
 rw[if_neg p]at h ⊢;split at h
 ·rename_i w;split at h
  ·rename_i c;obtain⟨rfl,rfl⟩:=c;rcases w with rfl|rfl
   ·rfl
   ·rfl
  ·cases h
 ·cases h
def Px{k n:Int}{name:Bs}(h:B4 k name n=0):A_ k name n≠[]:=λe=>by
 have:=SF h;rw[e]at this;have:k=0:=(congrArg (·.1) this).symm;subst this;cases h
theorem Dw{a k n:Int}{name w:Bs}(s:a=1∨a=2∧w=[])(h:B4 k name n=0)(hl:name.length<=64)(x:w.length<=400):opK (a,A_ k name n,w):=by
 have u:=aF7 k name n;have y:=Px h;refine⟨⟨by show(A_ k name n).length<=100;omega,x,?_⟩,λ_=>by show B4 (BS (A_ k name n)).1 _ _=0;rw[SF h];exact h⟩;rcases s with rfl|⟨rfl,rfl⟩
 ·exact .inl ⟨rfl,y⟩
 ·simp_all
def VY(a:UInt8){p:Bs}(hl:p.length<=64):opK (3,[a,47]++p++[47],[]):=
 ⟨⟨Xc,Qf _,.inr (.inr ⟨rfl,rfl⟩)⟩,λh=>absurd rfl h⟩
theorem qA{p:Bs}(h:AP p=0):B4 1 p 0=0:=by unfold B4;rw[if_pos rfl,if_pos ⟨rfl,h⟩]
def aMW{p:Bs}{n:Int}(h:AP p=0)(g:1<=n∧n<=30):B4 2 p n=0:=by unfold B4;rw[if_neg V,if_pos rfl,if_pos ⟨g.1,g.2,h⟩]
def aQy{p:Bs}(h:BM p=true):B4 3 p 0=0:=by unfold B4;rw[if_neg V,if_neg V,if_pos rfl,if_pos ⟨rfl,h⟩]
structure uN (l:List Op1):Prop where
 n:l.length<=40
 ok:∀x∈l,opK x
def aGJ{l q:List Mt}{m:Mt}(e:(HO l m).1=some q):AP m.1=0∧l.length<4:=by
 grind [HO,Eh]
def Sb{l:List Rl}:∀f j,DR l f j=0->∀i,j<=i->i<j+f->i<l.length->Hw (CL l i) (l.take i)=0
 |0,j,_,i,h1,h2,_=>O
 |f+1,j,h,i,h1,h2,hi=>by
  unfold DR at h;rw[if_pos O]at h;split at h
  ·omega
  ·rename_i o;rcases Nat.eq_or_lt_of_le h1 with rfl|h1
   ·exact Decidable.not_not.1 o
   ·exact Sb f (j+1) h i O O hi
def xW{l:List Rl}(h:B3 l=0):∀r∈l,r.1.length<=64:=λr n=>by
 unfold B3 at h;split at h
 ·cases h
 ·obtain⟨i,hi,rfl⟩:=QI n;have y:=Sb l.length 0 h i (Qf _) O hi;have e:CL l i=l[i]:=by simp[CL,Qd hi]
  rw[e]at y;unfold Hw at y;split at y
  ·omega
  ·grind [AP,Cn]
theorem pW{l:List Rl}(h:B3 l=0):(Bu (Bg l)).length<=300:=by
 have m:=(MV h).1;have g:=xW h;have i:CA (Bg l)<=71*(Bg l).length:=LQ λx q=>by
  obtain⟨r,n,rfl⟩:=Qp.1 q;have:=g r n;have:=Fc r.2.toNat;simp only[NE,Qh,Qb,Qg];omega
 have:=FU (Bg l);rw[CC]at *;omega
def eW(x y:Bs):(B5 [x,y]).length=4+x.length+y.length:=by
 grind [B5,xC,beB_len]
def pQ{l:List Mt}:F8 l↔l.Pairwise λa b=>Op.bytesLess a.1 b.1=true:=by
 rw[QD];constructor
 ·intro h i j hi u z;have:=h i j z u;simpa[Qz,hi,u]using this
 ·intro h i j z u;have:=h i j O u z;simpa[Qz,show i<l.length by omega,u]using this
def R8{l:List Tk}:F7 l↔l.Pairwise λa b=>Op.bytesLess a.1 b.1=true:=by
 rw[QD];constructor
 ·intro h i j hi u z;have:=h i j z u;simpa[Bf,Qz,hi,u]using this
 ·intro h i j z u;have:=h i j O u z;simpa[Bf,Qz,show i<l.length by omega,u]using this
def aCD{l q:List Mt}{m:Mt}(h:F8 l)(e:(HO l m).1=some q):F8 q:=by
 rw[SX h]at e;have:=jE (s:=(false,l)) (m:=m) h;unfold aCF at this;rw[e]at this;exact this
def xL{l:List Mt}{p:Bs}(h:F8 l):F8 (N3 l p):=by
 rw[pQ]at h ⊢;refine List.Pairwise.sublist ?_ h;unfold N3;have e:l=l.take (B8 l p).toNat++l.drop (B8 l p).toNat:=(Q_ _ _).symm
 conv=>rhs;rw[e]
 refine List.Sublist.append (List.Sublist.refl _) ?_;rw[←List.drop_drop];exact List.drop_sublist _ _
def cH{l:List Tk}{r:Bs->Nat}(T:Hm l r){s x:Bs}(h:Hs l s x):x=s∨∃c∈BZ l s,Hs l c x:=by
 induction h with
 |refl=>exact .inl rfl
 |step t j u ih=>
  right;rcases ih with e|⟨c,o,y⟩
  ·refine⟨t.1,?_,.refl⟩;have:=T.up t j;unfold BZ;refine Qp.2 ⟨t,QQ.2 ⟨j,?_⟩,rfl⟩;simp only[QB,decide_eq_true_eq];exact⟨e,λm=>by rw[e,←m]at this;omega⟩
  ·exact⟨c,o,.step t j y⟩
def W2{l:List Tk}{r:Bs->Nat}(T:Hm l r):∀(f:Nat)(s x:Bs),Hs l s x->l.length<=r s+f->x∈DU l f s
 |0,s,x,h,hf=>by
  rcases cH T h with rfl|⟨c,o,_⟩
  ·simp[DU]
  ·have:=Ij T o;omega
 |f+1,s,x,h,hf=>by
  rw[DU];rcases cH T h with rfl|⟨c,o,y⟩
  ·exact Qo
  ·have:=Ij T o;exact Qt _ (Zp.2 ⟨c,o,W2 T f c x y O⟩)
def aAM{l:List Tk}{r:Bs->Nat}(T:Hm l r){s x:Bs}:x∈Ck l s↔Hs l s x:=by
 unfold Ck;constructor
 ·intro h;exact IR _ _ _ (Tm h)
 ·intro h;exact(ZB _ _).mem_iff.2 (W2 T l.length s x h O)
def qY{l:List Bs}{s:Bs}:FV l s=true↔s∈l:=by
 unfold FV;rw[List.any_eq_true];constructor
 ·rintro⟨x,hx,e⟩;rw[of_decide_eq_true e];exact hx
 ·intro h;exact⟨s,h,decide_eq_true rfl⟩
def Wq{l:List Tk}{g:List Bs}{t:Tk}:t∈CF l g↔t∈l∧t.1∉g:=by
 unfold CF;rw[QQ];have:=@qY g t.1;cases h:FV g t.1<;>simp_all
def aAA{l:List Tk}(h:RQ l)(s:Bs):RQ (CF l (Ck l s)):=by
 obtain⟨r,T,f⟩:=h.tree;have b:(CF l (Ck l s)).Sublist l:=QX;refine⟨R8.2 ((R8.1 h.sort).sublist b),⟨λn=>((CF l (Ck l s)).filter λu=>decide (r u.1<=r n)).length,⟨λt j=>?_,λt j=>Zw _ _,T.one.sublist b⟩,?_⟩,λk w=>h.name k (b.subset w),λk w=>?_,λk w=>h.nop k (b.subset w),λk w=>h.rt k (b.subset w)⟩
 ·have v:=T.up t (b.subset j);have z:∀L:List Tk,t∈L->(L.filter λu=>decide (r u.1<=r t.2.1)).length<(L.filter λu=>decide (r u.1<=r t.1)).length:=by
   intro L;induction L with
   |nil=>intro h;cases h
   |cons a L ih=>
    have d:(L.filter λu=>decide (r u.1<=r t.2.1)).length<=(L.filter λu=>decide (r u.1<=r t.1)).length:=by
     rw[←Zd,←Zd];exact List.countP_mono_left (λu _ c=>by
      have:=of_decide_eq_true c;exact decide_eq_true O)
    intro hm;rcases Qn.1 hm with rfl|hm
    ·rw[Qi,Qi,if_neg Xc,if_pos U];simp only[Qb];omega
    ·have:=ih hm;rw[Qi,Qi];by_cases c1:r a.1<=r t.2.1
     ·rw[if_pos (by simpa using c1),if_pos Xc];simp only[Qb];omega
     ·rw[if_neg (by simpa using c1)];split
      ·simp only[Qb];omega
      ·exact this
  exact z _ j
 ·rw[Zo,Zs];intro u v;have:=T.up u (b.subset v);simp only[decide_eq_true_eq];omega
 ·obtain⟨p,ta⟩:=Wq.1 w;rcases h.par k p with e|⟨u,v,e⟩
  ·exact .inl e
  ·refine .inr ⟨u,Wq.2 ⟨v,λo=>ta ?_⟩,e⟩;rw[aAM T]at o ⊢;rw[e]at o;exact .step k p o
def Ln(q j:Bs):∀l:List Bs,BN (l++[q]) j=if q=j then(l.length:Int)else BN l j
 |[]=>by simp[BN]
 |x::r=>by
  have ih:=Ln q j r;show BN (x::(r++[q])) j=_;unfold BN;rw[ih];by_cases h:q=j
  ·simp only[if_pos h];rw[if_pos O];simp
  ·simp only[if_neg h]
def aA1(k:Kn)(q:Bs)(t:Bs)(b:Bool)(j:Bs):Dq {k with es:=k.es++[(q,t,b)]} j=if q=j then(t,b,true)else Dq k j:=by
 unfold Dq Fd;simp only[Zv,QV,Q6,Ln,Qv];by_cases h:q=j
 ·simp only[if_pos h];rw[if_neg O];simp[Qz]
 ·simp only[if_neg h];by_cases y:BN (k.es.map (·.1)) j<0
  ·rw[if_pos y,if_pos y]
  ·rw[if_neg y,if_neg y];have:=(EO (k.es.map (·.1)) j).2;rw[Qv]at this;have e:∀x,(k.es++[(q,t,b)]).getD (BN (k.es.map (·.1)) j).toNat x=k.es.getD (BN (k.es.map (·.1)) j).toNat x:=λx=>by
    simp only[Qz];rw[QP O]
   rw[e]
def zE(k:Kn)(q:Bs)(nl:Bool)(l:List Bs)(j:Bs):EY {k with ls:=k.ls++[(q,nl,l)]} j=if q=j then(nl,l,true)else EY k j:=by
 unfold EY;simp only[Zv,QV,Q6,Ln,Qv];by_cases h:q=j
 ·simp only[if_pos h];rw[if_neg O];simp[Qz]
 ·simp only[if_neg h];by_cases y:BN (k.ls.map (·.1)) j<0
  ·rw[if_pos y,if_pos y]
  ·rw[if_neg y,if_neg y];have:=(EO (k.ls.map (·.1)) j).2;rw[Qv]at this;have e:∀x,(k.ls++[(q,nl,l)]).getD (BN (k.ls.map (·.1)) j).toNat x=k.ls.getD (BN (k.ls.map (·.1)) j).toNat x:=λx=>by
    simp only[Qz];rw[QP O]
   rw[e]
def Gg(k:Kn)(q:Bs)(d:Dk)(j:Bs):(q=j->(Dq (A3 k q false d) j).2.2=true)∧(q≠j->Dq (A3 k q false d) j=Dq k j):=by
 have e:A3 k q false d={k with es:=k.es++[(q,((d.its.find? λx=>decide (x.1=q)).getD ([],[],false)).2)]}:=rfl;rw[e];have h:=aA1 k q ((d.its.find? λx=>decide (x.1=q)).getD ([],[],false)).2.1 ((d.its.find? λx=>decide (x.1=q)).getD ([],[],false)).2.2 j;refine⟨λu=>?_,λu=>?_⟩
 ·refine(congrArg (λx=>x.2.2) h).trans ?_;rw[if_pos u]
 ·refine h.trans ?_;rw[if_neg u]
def aF2(k:Kn)(q:Bs)(d:Dk):(EY (A3 k q true d) q).2.2=true:=by
 have e:A3 k q true d={k with ls:=k.ls++[(q,((d.lss.find? λx=>decide (x.1=q)).getD ([],true,[])).2)]}:=rfl;rw[e];have h:=zE k q ((d.lss.find? λx=>decide (x.1=q)).getD ([],true,[])).2.1 ((d.lss.find? λx=>decide (x.1=q)).getD ([],true,[])).2.2 q;refine(congrArg (λx=>x.2.2) h).trans ?_;rw[if_pos rfl]
def cK{l q:List Mt}{m:Mt}(h:F8 l)(e:(HO l m).1=some q):∀x∈q,x∈l∨x=m:=by
 grind [SX,aCG]
def aCH(l:List Mt)(m:Mt):(∃q,(HO l m).1=some q∧(HO l m).2=0∧q.length=l.length+1)∨((HO l m).1=none∧1<=(HO l m).2∧(HO l m).2<=99):=by
 unfold HO;have h:=II m.1;by_cases u:Eh m.1 m.2.1≠0
 ·grind [Eh]
 rw[if_neg u];by_cases y:0<=B8 l m.1
 ·simp_all
 rw[if_neg y];by_cases p:L2 m.1 (l.map (·.1))=true
 ·simp_all
 rw[if_neg p];by_cases n:4<=l.length
 ·simp_all
 rw[if_neg n];exact .inl ⟨_,rfl,rfl,by rw[isortR_len,Qh];rfl⟩
structure G6 (v:Vw):Prop where
 ok:P5 v
 inv:RQ v.ks
 srt:F8 v.ms
 nlm:v.nlm=true->v.ms=[]
 te:1<=v.te∧v.te<=6
 kl:v.ks.length<=39
 ml:v.ms.length<=4
 mr:∀m∈v.ms,m.1.length<=64
def aEL{v:Vw}(x:G6 v){n:Int}(g:1<=n∧n<=6):G6 {v with te:=n}:=⟨⟨x.ok.ml,x.ok.mp,x.ok.kl,x.ok.kp⟩,x.inv,x.srt,x.nlm,g,x.kl,x.ml,x.mr⟩
def Ta{v:Vw}(x:G6 v){nl:Bool}{l:List Mt}(u:Rk l)(r:F8 l)(g:nl=true->l=[])(hl:l.length<=4)(n:∀m∈l,m.1.length<=64):G6 {v with nlm:=nl,ms:=l}:=⟨⟨u.1,u.2,x.ok.kl,x.ok.kp⟩,x.inv,r,g,x.te,x.kl,hl,n⟩
def jZ{v:Vw}(x:G6 v){nl:Bool}{l:List Tk}(h:RQ l∧l.length<=39∧∀k∈l,wF k∧LY k.2.2.2):G6 {v with nlt:=nl,ks:=l}:=⟨⟨x.ok.ml,x.ok.mp,QG h.2.1 V,h.2.2⟩,h.1,x.srt,x.nlm,x.te,h.2.1,x.ml,x.mr⟩
structure I2 (a:Ak):Prop where
 ok:Hb a
 cap:F4 a.rs
 nlr:a.nlr=true->a.rs=[]
structure HP (k:Kn):Prop where
 es:k.es.length<=20
 ls:k.ls.length<=20
 et:∀x∈k.es,x.2.1.length<=400
 lt:∀x∈k.ls,x.2.2.length<=2000∧∀s∈x.2.2,s.length<=1000000
def HE(v:Vw)(e:Int):Oc:=⟨[],false,Hg (.fail e),true,[],v⟩
def Dy(v:Vw)(q:Bs)(li:Bool):Oc:=⟨q,li,[],true,[],v⟩
def Iy(v:Vw)(a:Ak)(o:Oc):Prop:=
 ∃y,LE y=0∧ryN y∧o.rep=Hg y∧(((∃e,y= .fail e)∧o.ops=[]∧o.vw=v)∨((∀e,y≠ .fail e)∧((DX a.op=false∧o.ops=[]∧∃b,(a.op≠2->a.op≠3->b=v.se)∧o.vw={v with se:=b})∨(DX a.op=true∧o.ops≠[]∧uN o.ops∧G6 o.vw∧o.vw.key=v.key))))
structure G9 (v:Vw) (a:Ak) (dec:Kn->Oc):Prop where
 run:∀k,HP k->R19 Rm RR [Hj v,GW a,.agg (Ha k)]=some (.agg (Li (dec k)))
 rep:∀k,HP k->(dec k).need=[]->Iy v a (dec k)
 nd:∀k,HP k->(dec k).need≠[]->∃q li,dec k=Dy v q li
 term:∃R:Kn->Nat,(∀k,R k<=3)∧∀k d,HP k->(dec k).need≠[]->R (A3 k (dec k).need (dec k).li d)<R k
def Ba{v:Vw}{a:Ak}(o:Oc)(run:∀k,HP k->R19 Rm RR [Hj v,GW a,.agg (Ha k)]=some (.agg (Li o)))(g:o.need=[])(n:Iy v a o):G9 v a (λ_=>o):=
 ⟨run,λ_ _ _=>n,λ_ _ h=>absurd g h,λ_=>0,λ_=>Qf _,λ_ _ _ h=>absurd g h⟩
def BR{v:Vw}{a:Ak}{e:Int}(z:1<=e∧e<=99):Iy v a (HE v e):=⟨.fail e,if_pos z,trivial,rfl,.inl ⟨⟨e,rfl⟩,rfl,rfl⟩⟩
def DA{v:Vw}{a:Ak}{o:Oc}(y:Ry)(h:LE y=0)(g:ryN y)(n:o.rep=Hg y)(i:∀e,y≠ .fail e)(k:DX a.op=false)(f:o.ops=[])(b:Bool)(m:a.op≠2->a.op≠3->b=v.se)(x:o.vw={v with se:=b}):Iy v a o:=
 ⟨y,h,g,n,.inr ⟨i,.inl ⟨k,f,b,m,x⟩⟩⟩
def DB{v:Vw}{a:Ak}{o:Oc}(y:Ry)(h:LE y=0)(g:ryN y)(n:o.rep=Hg y)(i:∀e,y≠ .fail e)(k:DX a.op=true)(f:o.ops≠[])(x:uN o.ops)(hi:G6 o.vw)(s:o.vw.key=v.key:=by rfl):Iy v a o:=
 ⟨y,h,g,n,.inr ⟨i,.inr ⟨k,f,x,hi,s⟩⟩⟩
def Nz{op:Int}(h:4<=op∧op<=18∧op≠9∧op≠14∧op≠17):DX op=true:=decide_eq_true h
def I4{op:Int}(h:op=1∨op=2∨op=3∨op=9∨op=14∨op=17):DX op=false:=decide_eq_false O
def Od:∀{l:List Mt},(∀m∈l,m.1.length<=64)->(FH l).length<=68*l.length
 |[],_=>Qe _
 |m::l,h=>by
  have ih:=Od (l:=l) λx q=>h x (Qt _ q)
  have u:=h m (Qo ..);have:=lP m;show(mtB m++FH l).length<=_;rw[Qh,Qb];omega
def Pd{s:Bs}(h:BM s=true):s.length<=8:=by
 grind [BM]
def HM(v:Vw):dU (GI v):=⟨rfl,rfl⟩
def vT(v:Vw)(a:Ak)(k:Kn){e:Int}(z:1<=e∧e<=99):NX ⟨v,a,k⟩ (GI v) [.int .i64 e]=some (.tup [],HE v e,none):=jJ ⟨v,a,k⟩ (GI v) e (HM v) z
def W3{v:Vw}{a:Ak}{e:Int}(q:jT [Hj v,GW a]=some (.int .i64 e))(z:1<=e∧e<=99):G9 v a (λ_=>HE v e):=
 Ba _ (λk _=>aC6 Rm RR v a k e O q _ _ (vT v a k z)) rfl (BR z)
def aGl{v:Vw}{a:Ak}(hv:G6 v)(ha:I2 a)(ga:jT [Hj v,GW a]=some (.int .i64 0))(hc:BO a=0)(h1:1<=a.op)(h8:a.op<=8):∃aa,G9 v a aa:=by
 have na:∀o:Oc,(GI v).nl=true->(GI v).ops=[]:=λ_ _=>rfl
 rcases(by omega:a.op=1∨a.op=2∨a.op=3∨a.op=4∨a.op=5∨a.op=6∨a.op=7∨a.op=8)with h|h|h|h|h|h|h|h
 ·exact⟨_,Ba _ (λk _=>Bp .o1 a k h ga _ _ (Gq ⟨v,a,k⟩ (GI v) (.state v.se) (λ_=>rfl) trivial trivial)) rfl (DA (.state v.se) rfl trivial rfl Xm (I4 O) rfl v.se (λ_ _=>rfl) rfl)⟩
 ·exact⟨_,Ba _ (λk _=>Bp .o2 a k h ga _ _ (Fz ⟨v,a,k⟩ _ (λ_=>rfl))) rfl (DA .done rfl trivial rfl Xm (I4 O) rfl _ (λe _=>absurd h e) rfl)⟩
 ·exact⟨_,Ba _ (λk _=>Bp .o3 a k h ga _ _ (Fz ⟨v,a,k⟩ _ (λ_=>rfl))) rfl (DA .done rfl trivial rfl Xm (I4 O) rfl _ (λ_ e=>absurd h e) rfl)⟩
 ·have ht:=hv.te;by_cases h6:6<=v.te
  ·exact⟨_,Ba _ (λk _=>Bp .o4 a k h ga _ _ (aCT ⟨v,a,k⟩ (GI v) _ _ (λ_=>rfl) h6 (vT v a k V))) rfl (BR V)⟩
  ·exact⟨_,Ba _ (λk _=>Bp .o4 a k h ga _ _ (aOR ⟨v,a,k⟩ (GI v) v.te (HM v) h6 rfl O)) rfl (DB .done rfl trivial rfl Xm (Nz O) (by simp[aFj,Oc.op,GI]) ⟨by simp[aFj,Oc.op,GI],by
    simp only[aFj,Oc.op,GI,QC,QT];exact⟨Dw (.inl rfl) rfl (Qf _) (by rw[Lib.repeatL_length];unfold Rv;simp only[List.length_singleton];split<;>omega),λ_ h=>nomatch h⟩⟩ (aEL hv O))⟩
 ·have hl:=hv.ml;have da:=aD8 (nl:=v.nlm) (t:=[]) (l:=v.ms) (m:=(a.pa,a.n,a.fl)) O hv.nlm (by have:=ha.ok.pa;simp only;omega);rcases aCH v.ms (a.pa,a.n,a.fl)with ⟨l',e1,e2,e3⟩|⟨e1,e2⟩
  ·rw[e1,e2]at da;have ea:Rk l':=⟨O,λm hm=>by
    rcases cK hv.srt e1 m hm with h|h
    ·exact hv.ok.mp m h
    ·rw[h];exact ha.ok.pa⟩
   obtain⟨sa,h4⟩:=aGJ e1;have b:∀m∈l',m.1.length<=64:=λm hm=>by
    rcases cK hv.srt e1 m hm with h|h
    ·exact hv.mr m h
    ·rw[h];exact Cn sa
   exact⟨_,Ba _ (λk _=>Bp .o5 a k h ga _ _ (aCR ⟨v,a,k⟩ (GI v) false l' da (HM v) ea)) rfl (DB .done rfl trivial rfl Xm (Nz O) (by simp[V7,Ru,Oc.op,GI]) ⟨by simp[V7,Ru,Oc.op,GI],by
    simp only[V7,Ru,Oc.op,GI,QC,QT];have:=Od b;exact⟨Dw (.inl rfl) rfl (Qf _) O,λ_ h=>nomatch h⟩⟩ (Ta hv ea (aCD hv.srt e1) (λe=>Xv) O b))⟩
  ·rw[e1]at da;exact⟨_,Ba _ (λk _=>Bp .o5 a k h ga _ _ (aCS ⟨v,a,k⟩ (GI v) _ _ (λ_=>rfl) v.nlm v.ms _ da O (vT v a k e2))) rfl (BR e2)⟩
 ·have hl:=hv.ml;by_cases hf:B8 v.ms a.pa<0
  ·have c:=aHN v.nlm v.ms a.pa O hf;exact⟨_,Ba _ (λk _=>Bp .o6 a k h ga _ _ (aCQ ⟨v,a,k⟩ (GI v) _ _ (λ_=>rfl) v.nlm v.ms 14 c V (vT v a k V))) rfl (BR V)⟩
  ·have hi:(B8 v.ms a.pa).toNat<v.ms.length:=by
    have:=WM v.ms a.pa;omega
   have c:=aC8 v.nlm v.ms a.pa O hv.nlm hf hi;have ea:Rk (N3 v.ms a.pa):=⟨Ys,λm hm=>by
    rcases QH.1 hm with h|h
    ·exact hv.ok.mp m (Q3 h)
    ·exact hv.ok.mp m (Zz h)⟩
   have i:=Cn (PT hc (by rw[h];decide+kernel));have b:∀m∈N3 v.ms a.pa,m.1.length<=64:=λm hm=>by
    rcases QH.1 hm with h|h
    ·exact hv.mr m (Q3 h)
    ·exact hv.mr m (Zz h)
   have xa:=ea.1;have ia:(N3 v.ms a.pa).length<=4:=Ys
   exact⟨_,Ba (umO (GI v) (decide (N3 v.ms a.pa=[])) (N3 v.ms a.pa) a.pa) (λk _=>Bp .o6 a k h ga _ _ (aOQ ⟨v,a,k⟩ (GI v) _ _ c (HM v) ea (by have:=ha.ok.pa;simp only;omega))) rfl (DB .done rfl trivial rfl Xm (Nz O) (by simp[umO,Ru,Oc.op,GI]) ⟨by simp[umO,Ru,Oc.op,GI],by
    simp only[umO,Ru,Oc.op,GI,QC,ZI,QT];have:=Od b;exact⟨Dw (.inl rfl) rfl (Qf _) O,VY 109 i,VY 100 i,λ_ h=>nomatch h⟩⟩ (Ta hv ea (xL hv.srt) (λe=>of_decide_eq_true e) ia b))⟩
 ·have ma:=hv.kl;have hr:LY a.rs:=⟨Ym,λr hr=>QG (ha.ok.rs r hr).1 V,ha.cap⟩;have fa:=aPK (nl0:=v.nlt) (nl:=a.nlr) (l:=v.ks) (n:=a.ot) (p:=a.tk) (rs:=a.rs) O (λk hk=>(hv.ok.kp k hk).2) ha.nlr hr (by have:=ha.ok.ot;omega) Yl;have f:=aIv (nl:=v.nlt) (l:=v.ks) O;rcases zC v.ks (a.ot,a.tk,a.nlr,a.rs)with ⟨⟨l',e1⟩,e2,e3,e4,e5,e6⟩|⟨e1,e2⟩
  ·rw[e1]at fa;by_cases hm:(24:Int)<=((v.ks.map λk=>D.str k.1).length:Int)
   ·exact⟨_,Ba _ (λk _=>Bp .o7 a k h ga _ _ (aCO ⟨v,a,k⟩ (GI v) _ _ (λ_=>rfl) false l' fa _ _ f hm (vT v a k V))) rfl (BR V)⟩
   ·have ba:=U6 (n:=a.ot) (p:=a.tk) (nl:=a.nlr) (t:=[]) (l:=a.rs) Ym hr.2.1 (by have:=ha.ok.ot;omega) Yl;simp only at e2;rw[e2]at ba;have j:=U4 (nl:=a.nlr) (l:=a.rs) Ym ha.ok.rs;have ja:(if B3 a.rs=0 then Bu (Bg a.rs)else []).length<=300:=by
     grind [pW]
    have qa:=QG ja (by decide:300<=60000);have ca:BM a.ot=true:=R1 e2;obtain⟨tp,oa,ka⟩:=Nd e5;have w:a.tk.length<=8:=by
     have:=Pd (hv.inv.name tp oa);rw[ka]at this;exact this
    have la:(B5 [a.tk,if B3 a.rs=0 then Bu (Bg a.rs)else []]).length<=400:=by rw[eW];omega
    have g:=oA a.ot a.tk a.nlr a.rs _ _ ba j Yl qa;exact⟨_,Ba (mkO (GI v) false l' a.ot (B5 [a.tk,if B3 a.rs=0 then Bu (Bg a.rs)else []])) (λk _=>Bp .o7 a k h ga _ _ (aOP ⟨v,a,k⟩ (GI v) false l' fa _ _ f (HM v) hm _ _ g (by have:=ha.ok.ot;simp only;omega))) rfl (DB .done rfl trivial rfl Xm (Nz O) (by simp[mkO,Sz,Oc.op,GI]) ⟨by simp[mkO,Sz,Oc.op,GI],by
     simp only[mkO,Sz,Oc.op,GI,QC,QT];exact⟨Dw (.inl rfl) (aQy ca) (QG (Pd ca) V) la,λ_ h=>nomatch h⟩⟩ (jZ hv (nl:=false) (l:=l') (by
      have e7:l'=E0 v.ks (a.ot,a.tk,a.nlr,a.rs):=ZU ((congrArg Prod.fst e1).symm.trans e6);rw[e7];exact⟨aAz hv.inv e2 e4 e5,by rw[Vg];rw[Qv]at hm;omega,λk hk=>by
       rcases Dr.1 hk with hk|rfl
       ·exact hv.ok.kp k hk
       ·exact⟨⟨hr.1,ha.nlr⟩,hr⟩⟩)))⟩
  ·rw[e1]at fa;exact⟨_,Ba _ (λk _=>Bp .o7 a k h ga _ _ (aCP ⟨v,a,k⟩ (GI v) _ _ (λ_=>rfl) v.nlt v.ks _ fa O (vT v a k e2))) rfl (BR e2)⟩
 ·obtain⟨r,hr,_⟩:=hv.inv.tree;have ma:=hv.kl;cases hf:AV v.ks a.ot with
  |false=>
   have d:=aHW (nl:=v.nlt) O hr hf;exact⟨_,Ba _ (λk _=>Bp .o8 a k h ga _ _ (aCN Rm ⟨v,a,k⟩ (GI v) _ _ (λ_=>rfl) v.nlt v.ks true [] 6 d V (vT v a k V))) rfl (BR V)⟩
  |true=>
   have d:=aD4 (nl:=v.nlt) O hr hf;have z:(Ck v.ks a.ot).length<=v.ks.length+1:=by
    unfold Ck eN;rw[Qr];exact mM hr _ _
   have y:∀s∈Ck v.ks a.ot,BM s=true:=λs hs=>by
    have:=mL (Tm hs);obtain⟨u,hu,e⟩:=Nd hf;rcases Qn.1 this with rfl|h
    ·rw[←e];exact hv.inv.name u hu
    ·obtain⟨t,ht,rfl⟩:=Qp.1 h;exact hv.inv.name t ht
   have q:Ck v.ks a.ot≠[]:=λe=>by
    have h1:(Ck v.ks a.ot).length=(DU v.ks v.ks.length a.ot).length:=Qr _;rw[e]at h1;cases hk:v.ks.length<;>rw[hk]at h1<;>simp[DU]at h1
   have ra:∀s∈Ck v.ks a.ot,s.length<=1000000:=λs hs=>by
    have:=y s hs;unfold BM at this;simp only[QB,decide_eq_true_eq]at this;omega
   have hy:LE (.names false (Ck v.ks a.ot))=0:=if_pos ⟨O,by
    rw[Zj];intro x hx;rw[aFG (y x hx)];decide⟩
   exact⟨_,Ba (qB (GI v) (decide (CF v.ks (Ck v.ks a.ot)=[])) (CF v.ks (Ck v.ks a.ot)) false (Ck v.ks a.ot)) (λk _=>Bp .o8 a k h ga _ _ (aOO Rm ⟨v,a,k⟩ (GI v) _ _ false (Ck v.ks a.ot) d (HM v) q O ra (λe=>Xv))) rfl (DB (.names false (Ck v.ks a.ot)) hy (λe=>Xv) rfl Xm (Nz O) (by simp[qB,DD,Sz,GI,q]) ⟨by simp[qB,DD,Sz,GI];omega,λx hx=>by
    simp only[qB,DD,Sz,GI,QC]at hx;obtain⟨n,hn,rfl⟩:=Qp.1 hx;exact Dw (.inr ⟨rfl,rfl⟩) (aQy (y n hn)) (QG (Pd (y n hn)) V) (Qf _)⟩ (jZ hv ⟨aAA hv.inv a.ot,QG (Zw _ _) ma,λk hk=>hv.ok.kp k (QQ.1 hk).1⟩))⟩
theorem mH{k:Kn}(h:HP k)(q:Bs):(Dq k q).1.length<=400:=by
 unfold Dq;split
 ·decide
 ·rename_i y;have:=(EO (Fd k) q).2;unfold Fd at this y;rw[Qv]at this;simp only[Qz,Fd];rw[Qd O];exact h.et _ (QL O)
def aNk{k:Kn}(h:HP k)(q:Bs):(EY k q).2.1.length<=2000∧∀s∈(EY k q).2.1,s.length<=1000000:=by
 unfold EY;split
 ·simp_all
 ·rename_i y;have:=(EO (k.ls.map (·.1)) q).2;rw[Qv]at this;simp only[Qz];rw[Qd O];exact h.lt _ (QL O)
structure vH (s:Sc):Prop where
 bad:DL s 6=false
 nl:s.nl=true->s.rs=[]
theorem OP{s:Sc}{q:Int}(h:DL s q=false):(1<=q∧q<=6)∧(0<=s.mx∧s.mx<=6)∧(0<=s.la∧s.la<=30)∧(s.rs.length:Int)<=6∧H3 s.rs 0=true∧Pc s.rs=s.la:=by
 grind [DL,B7]
def vH.len{s:Sc}(h:vH s):s.rs.length<=6:=by have:=(OP h.bad).2.2.2.1;omega
def aMO:vH sc0:=⟨V,λ_=>rfl⟩
theorem pC{t:Bs}(h:(Cg t).2=0):vH (Cg t).1:=by
 unfold Cg at h ⊢;split at h
 ·cases h
 ·rename_i u;rw[if_neg u];split at h
  ·cases h
  ·rename_i y;rw[if_neg y];refine⟨by
    cases hb:DL (eC t) 6 with
    |false=>rfl
    |true=>exact absurd (.inr (.inr hb)) y,λg=>?_⟩
   simp only[eC,decide_eq_true_eq]at g;show(FE t).1=[];unfold FE;rw[g];rfl
def DK(i:Bs×Bool×Bool):Option Sc:=if i.2.1=false∨(Cg i.1).2≠0 then none else some (Cg i.1).1
def Lg(o:Option Sc):Sc:=o.getD sc0
def Og{i:Bs×Bool×Bool}{s:Sc}(h:DK i=some s):vH s:=by
 grind [DK,pC]
def Gc(i:Bs×Bool×Bool):vH (Lg (DK i)):=by
 cases h:DK i with
 |none=>exact aMO
 |some s=>exact Og h
def AK(k:Kn)(p:Bs):Bs×Bool×Bool:=Dq k (A_ 1 p 0)
section
variable{v:Vw}{a:Ak}{k:Kn}
def MK(s:HP k){p:Bs}(g:p.length<=1000000)(h:(AK k p).2.2=false):CX ⟨v,a,k⟩ (GI v) [.str p]=some (.tup [.agg (GG sc0),.bool false,.bool false],Dy v (A_ 1 p 0) false,none):=
 uD ⟨v,a,k⟩ (GI v) p (HM v) g (by have:=s.es;simp only;omega) (AK k p) rfl h
def Le(s:HP k){p:Bs}(g:p.length<=1000000)(h:(AK k p).2.2=true):CX ⟨v,a,k⟩ (GI v) [.str p]=some (.tup [.agg (GG (Lg (DK (AK k p)))),.bool (DK (AK k p)).isSome,.bool true],GI v,none):=by
 have hl:(AK k p).1.length<=1000000:=by have:=mH s (A_ 1 p 0);unfold AK;omega
 have i:(Wb.mk v a k).k.es.length<=1000:=by have:=s.es;simp only;omega
 by_cases o:(AK k p).2.1=false∨(Cg (AK k p).1).2≠0
 ·have e:DK (AK k p)=none:=if_pos o;rw[e];exact aGP ⟨v,a,k⟩ (GI v) p (HM v) g i (AK k p) rfl h hl o
 ·have e:DK (AK k p)=some (Cg (AK k p).1).1:=if_neg o;rw[e];rw[not_or]at o;exact aCU ⟨v,a,k⟩ (GI v) p (HM v) g i (AK k p) rfl h hl (by simpa using o.1) (Decidable.not_not.1 o.2)
def HQ(v:Vw)(p:Bs)(s:Sc)(cas:Int)(data:Bs):Oc:=
 if(Ct s (BP v p).1 (BP v p).2 cas data.length).2.2.2≠0 then HE v (Ct s (BP v p).1 (BP v p).2 cas data.length).2.2.2 else oX (GI v) p (Ct s (BP v p).1 (BP v p).2 cas data.length) data
theorem aFo(s:Sc)(q:Int)(b:Bool)(cas r:Int):0<=IW s q b cas r∧IW s q b cas r<=99:=by
 grind [IW]
def jW{s:Sc}(i:s.rs.length<=6)(q:Int)(b:Bool)(cas r:Int):(0<=(Ct s q b cas r).2.2.2∧(Ct s q b cas r).2.2.2<=99)∧(Ct s q b cas r).1.rs.length<=7∧(Ct s q b cas r).2.2.1.length<=7∧((Ct s q b cas r).2.2.2=0->0<=(Ct s q b cas r).2.1∧(Ct s q b cas r).2.1<=31):=by
 grind [aFo,Ct,IW,PM,D8,Nf,DL,OP]
def aMv(x:G6 v){p:Bs}(g:p.length<=1000000){s:Sc}(i:vH s){cas:Int}{data:Bs}(r:data.length<=1000000):∃ol,UU ⟨v,a,k⟩ (GI v) [.str p,.agg (GG s),.int .i64 cas,.str data]=some (.tup [],HQ v p s cas data,ol):=by
 have hl:=i.len;obtain⟨u,y,o,n⟩:=jW hl (BP v p).1 (BP v p).2 cas data.length;have t:(Wb.mk v a k).v.ms.length<=1000:=by have:=x.ml;simp only;omega
 unfold HQ;by_cases h:(Ct s (BP v p).1 (BP v p).2 cas data.length).2.2.2≠0
 ·rw[if_pos h];exact⟨_,uC ⟨v,a,k⟩ (GI v) p s cas data (HM v) O i.nl g r t _ rfl O⟩
 ·rw[if_neg h];exact⟨_,aGO ⟨v,a,k⟩ (GI v) p s cas data (HM v) O i.nl g r t _ rfl (Decidable.not_not.1 h) O O⟩
def Oh{s:Sc}(r:vH s):∀x∈s.rs,1<=x.1∧x.1<=30:=(SV r.bad V).2
def VV(s:Sc):(FO s).length<=4+2*s.rs.length:=by
 grind [FO,rowsI_len,aOG]
def mG{s:Sc}{q n:Int}(h:n∈Nf s q):∃x∈s.rs,x.1=n:=by
 obtain⟨x,p,e⟩:=Qp.1 h;exact⟨x,Q3 p,e⟩
theorem Ul{p:Bs}(y:AP p=0){ns:List Int}(h:∀n∈ns,1<=n∧n<=30):∀x∈ns.map (λn=>((2:Int),A_ 2 p n,([]:Bs))),opK x:=λx q=>by
 obtain⟨n,g,rfl⟩:=Qp.1 q;exact Dw (.inr ⟨rfl,rfl⟩) (aMW y (h n g)) (Cn y) (Qf _)
theorem RU(t:G6 v){p:Bs}{s:Sc}(r:vH s){cas:Int}{data:Bs}(k:AP p=0)(hw:DX a.op=true):(HQ v p s cas data).need=[]∧Iy v a (HQ v p s cas data):=by
 have hl:=r.len;obtain⟨u,y,o,h4⟩:=jW hl (BP v p).1 (BP v p).2 cas data.length;unfold HQ;by_cases h:(Ct s (BP v p).1 (BP v p).2 cas data.length).2.2.2≠0
 ·rw[if_pos h];exact⟨rfl,BR O⟩
 ·rw[if_neg h];have i:IW s (BP v p).1 (BP v p).2 cas data.length=0:=by
   grind [IW,BP,Ct]
  have m:s.la+1<=30∧1<=s.la+1∧data.length<=96:=by
   have z:=(OP r.bad).2.2.1;unfold IW at i
   repeat' split at i
   all_goals first|omega|cases i
  have f:=y;have e:Ct s (BP v p).1 (BP v p).2 cas data.length=(PM (D8 s) (BP v p).1,s.la+1,Nf (D8 s) (BP v p).1,0):=by unfold Ct;rw[if_neg (λc=>c i)]
  rw[e]at o f ⊢;simp only at o f;have ra:=VV (PM (D8 s) (BP v p).1);have b:∀n∈Nf (D8 s) (BP v p).1,1<=n∧n<=30:=λn g=>by
   obtain⟨x,hx,rfl⟩:=mG g;rcases QH.1 hx with hx|hx
   ·exact Oh r x hx
   ·simp_all
  refine⟨rfl,DB (.number (s.la+1)) (if_pos ⟨O,O⟩) trivial rfl Xm hw (by simp[oX,Bo,Oc.op,GI]) ⟨?_,?_⟩ ?_⟩
  ·simp only[oX,Bo,Oc.op,GI,Qh,Qb,Qg,Qv];omega
  ·simp only[oX,Bo,Oc.op,GI,QC,ZI,QT];exact⟨Dw (.inl rfl) (qA k) (Cn k) O,Dw (.inl rfl) (aMW k ⟨m.2.1,m.1⟩) (Cn k) O,Ul k b⟩
  ·exact t
def LN(v:Vw)(p:Bs)(s:Sc)(gone:List Int)(e:Int):Oc:=if e≠0 then HE v e else OZ (GI v) p s gone
def aEK{s:Sc}(r:s.rs.length<=1000){gnl:Bool}{gone:List Int}(o:gone.length<=900){e:Int}(z:0<=e∧e<=99)(g:a.pa.length<=1000000):∃ol,US ⟨v,a,k⟩ (GI v) [.agg (GG s),.slice gnl [] (AH gone),.int .i64 e]=some (.tup [],LN v a.pa s gone e,ol):=by
 unfold LN;by_cases h:e≠0
 ·rw[if_pos h];exact⟨_,uA ⟨v,a,k⟩ (GI v) s gnl gone e (HM v) O⟩
 ·rw[if_neg h];obtain rfl:=Decidable.not_not.1 h;exact⟨_,aGN ⟨v,a,k⟩ (GI v) s gnl gone (HM v) o r g⟩
def LM(x:G6 v){p:Bs}{s:Sc}{gone:List Int}(o:gone.length<=30){e:Int}(z:0<=e∧e<=99)(y:AP p=0)(k:DX a.op=true)(r:s.rs.length<=6)(g:∀n∈gone,1<=n∧n<=30):(LN v p s gone e).need=[]∧Iy v a (LN v p s gone e):=by
 unfold LN;by_cases h:e≠0
 ·rw[if_pos h];exact⟨rfl,BR O⟩
 ·rw[if_neg h];have i:=VV s;refine⟨rfl,DB .done rfl trivial rfl Xm k (by simp[OZ,Bo,Oc.op,GI]) ⟨?_,?_⟩ x⟩
  ·grind [OZ,Bo,Oc.op,GI]
  ·grind [OZ,Bo,Oc.op,GI,Dw,qA,Cn,Ul]
def MN(ns:List Int)(n:Nat):∀(l:List Rw)(j:Nat),∀q∈Ek ns n j l,∃x∈l,x.1=q
 |[],j,q,h=>Xd
 |x::r,j,q,h=>by
  unfold Ek at h;split at h
  ·rcases Qn.1 h with rfl|h
   ·simp_all
   ·obtain⟨y,o,e⟩:=MN ns n r (j+1) q h;exact⟨y,Qt _ o,e⟩
  ·obtain⟨y,o,e⟩:=MN ns n r (j+1) q h;exact⟨y,Qt _ o,e⟩
def pF{s:Sc}(r:vH s)(ns:List Int)(c:Nat):∀q∈(BC s ns c).2.1,1<=q∧q<=30:=λq v=>by
 unfold BC at v
 repeat' split at v
 ·cases v
 ·cases v
 ·obtain⟨x,p,rfl⟩:=MN _ _ _ _ q v;exact Oh r x p
def sI{s:Sc}(i:vH s)(q r:Int)(b:Bool):∀n∈(DM s q r b).2.1,1<=n∧n<=30:=λn g=>by
 unfold DM at g;split at g
 ·cases g
 ·obtain⟨x,p,rfl⟩:=mG g;exact Oh i x p
theorem R0(ns:List Int)(n:Nat):∀(l:List Rw)(j:Nat),(Ek ns n j l).length<=l.length
 |[],j=>Qe _
 |x::r,j=>by
  unfold Ek;have:=R0 ns n r (j+1);split<;>simp only[Qb]<;>omega
def LL{s:Sc}(r:s.rs.length<=6)(ns:List Int)(c:Nat):(0<=(BC s ns c).2.2∧(BC s ns c).2.2<=99)∧(BC s ns c).1.rs.length<=6∧(BC s ns c).2.1.length<=6:=by
 grind [BC,MM,R0]
def bO{s:Sc}(i:s.rs.length<=6)(q r:Int)(b:Bool):(0<=(DM s q r b).2.2∧(DM s q r b).2.2<=99)∧(DM s q r b).1.rs.length<=6∧(DM s q r b).2.1.length<=6:=by
 grind [DM,PM,Nf]
end
end Go.Vd
end
