/- A part of the proof; nothing in it is assumed. -/
import Derived.Test.YtpiplnfjodahpaaGreatDoorMFitsP4
import Derived.WalkLawsBesides
import Derived.RangeFuncNested
import Derived.RangeFuncBound
import Derived.Deep.Fields

set_option linter.unusedSimpArgs false
set_option linter.unusedVariables false
set_option linter.defProp false
set_option maxHeartbeats 4000000
set_option maxRecDepth 100000
open Nat renaming le_of_ble_eq_true→Qa,le_trans→Qc,le_refl→Qf,zero_le→Qn,reduceAdd→Qs,reduceEqDiff→Qt,reduceSub→QP,reduceLeDiff→Q7,le_of_eq→Zq,reduceLT→Zt,lt_irrefl→ZE,lt_of_lt_of_le→ZI,le_succ_of_le→ZL,lt_trichotomy→ZN,reduceMul→Z3,lt_or_ge→Z4,add_zero→Z5
open List renaming mem_singleton→Qb,nil_append→Qd,cons_append→Qe,mem_cons_of_mem→Qh,getElem?_eq_getElem→Qi,mem_cons_self→Qj,length_cons→Qk,mem_map→Ql,drop_eq_getElem_cons→Qo,length_map→Qq,mem_filter→Qr,getElem?_cons_zero→Qu,mem_cons→Qv,mem_append→Qw,length_nil→Qy,take_append_drop→QA,length_append→QD,getElem?_map→QF,append_assoc→QG,map_cons→QH,mem_of_mem_take→QJ,take_succ_eq_append_getElem→QL,filter_sublist→QN,drop_eq_nil_of_le→QO,getElem_mem→QQ,pairwise_iff_getElem→QR,append_toArray→QV,getElem_of_mem→QW,getElem?_cons_succ→QX,pairwise_cons→QY,size_toArray→QZ,push_toArray→Q_,mem_of_mem_drop→Q0,mem_of_getElem?→Q1,pairwise_append→Q2,filter_cons→Q3,length_eq_zero_iff→Q5,take_length→Q6,drop_append_of_le_length→Q8,range_eq_range'→Q9,map_append→Za,map_nil→Zc,getElem?_append_right→Zi,getElem?_eq_some_iff→Zj,append_eq_append_iff→Zk,pairwise_map→Zn,length_drop→Zp,toArray→Zr,take_of_length_le→Zs,length_filter_le→Zv,mem_append_right→Zw,map_eq_nil_iff→Zx,take_succ_cons→Zy,getD_cons_zero→Zz,getD_cons_succ→ZA,sum_cons→ZB,getElem?_drop→ZH,drop_sublist→ZK,all_eq_false→ZM,getLast?_map→ZO,getD→ZP,take_prefix→ZQ,not_mem_nil→ZR,mem_nil_iff→ZS,append_nil→ZU,find?_cons→ZV,headD_cons→ZX,drop_left→Z0,find?_nil→Z1,append_eq→Z2,map→Z7,Nodup→Z8,drop→Z9
open Int renaming toNat_natCast→Qg,reduceEq→QB,le_refl→Q4,toNat_of_nonneg→Zb,reduceNe→Zd,reduceLE→Ze,tmod_eq_emod_of_nonneg→Zg,reduceLT→Zu,lt_irrefl→ZD
open Array renaming getElem?_eq_some_iff→Qm,replicate_succ→QT,replicate_zero→QU,getElem?_eq_getElem→Zl
open Option renaming isSome_some→Qp,map_eq_some_iff→QE,getD_some→QI,map_some→QS,isSome_none→Zf,getD_none→Zo,map_none→ZY
open Option.some renaming injEq→Qx,inj→ZT
open Bool renaming and_eq_true→Qz,false_eq_true→Zh,not_eq_true'→Zm,or_false→ZF,true_eq_false→ZG,false_ne_true→ZJ,eq_iff_iff→ZW,false_and→Z_,or_true→Z6
open Go.Proofs.Tryz renaming prog→QC
open List.cons renaming injEq→QM
open Prod.mk renaming injEq→ZC
open Prod renaming ext→Ja,fst→Jb
open Go.Proofs.Tryz
noncomputable section
namespace Go.Vd
open Go.Proofs Go.RowKit
def oI(s:Sc)(n:Int):0<=(Ic s n).2∧(Ic s n).2<=99:=by
 grind [Ic]
def W3{s:Sc}(g:SI s){n:Int}(h:(Ic s n).2=0):1<=(Ic s n).1.1∧(Ic s n).1.1<=30:=by
 have o:=GZ g.bad;unfold Ic at h ⊢;split at h
 ·cases h
 ·rename_i u;rw[if_neg u];split at h
  ·cases h
  ·rename_i y;rw[if_neg y];split at h
   ·cases h
   ·rename_i i;rw[if_neg i];have w:GB s n<s.rs.length:=by
     unfold GB;split
     ·omega
     ·exact Tf _ _
    simp only[ZP];rw[Qi O];have j:=NF o.2.2.2.2.1 _ (QQ (l:=s.rs) (n:=(GB s n).toNat) O);have z:(s.rs.getLast?.map (·.1)).getD 0=Gl s.rs:=by unfold Gl;cases s.rs.getLast?<;>rfl
    rw[z,o.2.2.2.2.2]at j;simp only[QI];omega
def CW(v:Vw)(a:Ak)(k:Kn):Oc:=
 if(AK k a.pa).2.2=false then Dq v (An 1 a.pa 0) false
 else if a.op=10 then DX v a.pa (Ei (B1 (AK k a.pa))) a.cas a.da
 else if a.op=15 then Dz v a.pa (Cm (Ei (B1 (AK k a.pa))) (AL v a.pa).1 a.n a.fl).1 (Cm (Ei (B1 (AK k a.pa))) (AL v a.pa).1 a.n a.fl).2.1 (Cm (Ei (B1 (AK k a.pa))) (AL v a.pa).1 a.n a.fl).2.2
 else match B1 (AK k a.pa)with
  |none=>FJ v 6
  |some s=>if a.op=14 then {He v with rep:=Is (.about s)}else if a.op=16 then {Ek (He v) a.pa s.rs with rep:=Is .done}
   else if a.op=11 then Dz v a.pa (Bf s a.ns 280).1 [] (Bf s a.ns 280).2.2 else if a.op=12 then Dz v a.pa (Bf s a.ns 281).1 [] (Bf s a.ns 281).2.2
   else Dz v a.pa (Bf s a.ns 282).1 (Bf s a.ns 282).2.1 (Bf s a.ns 282).2.2
def aWi{v:Vw}{a:Ak}{k:Kn}(m:HD v)(x:Le a)(t:Ir k)(r:10<=a.op∧a.op<=16):∃ol,Ua ⟨v,a,k⟩ (He v) []=some (.tup [],CW v a k,ol):=by
 have c:a.pa.length<=1000000:=Ys
 have p:a.da.length<=1000000:=by have:=x.ok.da;omega
 have g:=x.ok.ns;unfold CW;cases hm:(AK k a.pa).2.2 with
 |false=>
  rw[if_pos rfl];exact⟨_,aD5 ⟨v,a,k⟩ (He v) _ _ _ (λ_=>rfl) (Nv t c hm)⟩
 |true=>
  rw[if_neg V];have z:=LU (v:=v) (a:=a) t c hm;have i:=Ec (AK k a.pa);by_cases w:a.op=10
  ·rw[if_pos w];obtain⟨ol,q⟩:=aNY (a:=a) (k:=k) m c i (cas:=a.cas) (data:=a.da) p;exact⟨_,xS ⟨v,a,k⟩ (He v) _ _ _ _ (λ_=>rfl) z w q⟩
  rw[if_neg w];by_cases e:a.op=15
  ·rw[if_pos e];have hl:=i.len;obtain⟨u,b2,j⟩:=eQ hl (AL v a.pa).1 a.n a.fl;obtain⟨ol,y⟩:=aFX (v:=v) (a:=a) (k:=k) (s:=(Cm (Ei (B1 (AK k a.pa))) (AL v a.pa).1 a.n a.fl).1) O (gnl:=decide ((Cm (Ei (B1 (AK k a.pa))) (AL v a.pa).1 a.n a.fl).2.1=[])) (gone:=(Cm (Ei (B1 (AK k a.pa))) (AL v a.pa).1 a.n a.fl).2.1) O u c;exact⟨_,mM ⟨v,a,k⟩ (He v) _ _ _ _ (λ_=>rfl) z e (AL v a.pa).1 (AL v a.pa).2 _ _ _ _ y (VU ⟨v,a,k⟩ (He v) a.pa (λ_=>rfl) (by have:=m.ml;simp only;omega)) (aI8 _ _ _ _ _ O i.nl)⟩
  rw[if_neg e];cases hs:B1 (AK k a.pa)with
  |none=>
   rw[hs]at z;exact⟨_,aD4 ⟨v,a,k⟩ (He v) _ _ _ (λ_=>rfl) z w e (zS v a k V)⟩
  |some s=>
   rw[hs]at z;have b:=Lk hs;have hl:=b.len;simp only;by_cases o:a.op=14
   ·rw[if_pos o];exact⟨_,xU ⟨v,a,k⟩ (He v) s _ _ (λ_=>rfl) z o (I8 ⟨v,a,k⟩ (He v) (.about s) (λ_=>rfl) (show s.rs.length<=1000 by omega) trivial)⟩
   rw[if_neg o];by_cases ta:a.op=16
   ·rw[if_pos ta];exact⟨_,xT ⟨v,a,k⟩ (He v) s _ _ (λ_=>rfl) z ta (aIb ⟨v,a,k⟩ (He v) s (Io v) O c)⟩
   rw[if_neg ta];by_cases na:a.op=11
   ·rw[if_pos na];obtain⟨u,b2,j⟩:=Ms hl a.ns 280;obtain⟨ol,y⟩:=aFX (v:=v) (a:=a) (k:=k) (s:=(Bf s a.ns 280).1) O (gnl:=true) (gone:=[]) (Qn _) u c;exact⟨_,mL ⟨v,a,k⟩ (He v) s _ _ (λ_=>rfl) z na _ _ y (aI6 s _ _ O b.nl g)⟩
   rw[if_neg na];by_cases qa:a.op=12
   ·rw[if_pos qa];obtain⟨u,b2,j⟩:=Ms hl a.ns 281;obtain⟨ol,y⟩:=aFX (v:=v) (a:=a) (k:=k) (s:=(Bf s a.ns 281).1) O (gnl:=true) (gone:=[]) (Qn _) u c;exact⟨_,VP ⟨v,a,k⟩ (He v) s _ _ (λ_=>rfl) z qa _ _ y (aI4 s _ _ O b.nl g)⟩
   rw[if_neg qa];have f:a.op=13:=O
   obtain⟨u,b2,j⟩:=Ms hl a.ns 282;obtain⟨ol,y⟩:=aFX (v:=v) (a:=a) (k:=k) (s:=(Bf s a.ns 282).1) O (gnl:=decide ((Bf s a.ns 282).2.1=[])) (gone:=(Bf s a.ns 282).2.1) O u c;exact⟨_,fQ ⟨v,a,k⟩ (He v) s _ _ (λ_=>rfl) z f _ _ _ _ y (aI2 s _ _ O b.nl g)⟩
def D9{v:Vw}{a:Ak}{k:Kn}(m:HD v)(j:Ay a.pa=0)(r:10<=a.op∧a.op<=16):((AK k a.pa).2.2=true->(CW v a k).need=[]∧Lb v a (CW v a k))∧((AK k a.pa).2.2=false->CW v a k=Dq v (An 1 a.pa 0) false):=by
 have i:=Ec (AK k a.pa);have hl:=i.len;unfold CW;cases hm:(AK k a.pa).2.2 with
 |false=>
  rw[if_pos rfl];exact⟨λe=>Xv,λ_=>rfl⟩
 |true=>
  rw[if_neg V];refine⟨λ_=>?_,λe=>Xv⟩;by_cases o:a.op=14
  ·rw[if_neg O,if_neg O];cases hs:B1 (AK k a.pa)with
   |none=>exact⟨rfl,BY V⟩
   |some s=>
    simp only;rw[if_pos o];exact⟨rfl,Gu (.about s) (if_neg (by rw[(Lk hs).bad];decide)) trivial rfl Xn (PK O) rfl v.se (λ_ _=>rfl) rfl⟩
  have f:Eb a.op=true:=Oj O;by_cases w:a.op=10
  ·grind [SQ]
  rw[if_neg w];by_cases t:a.op=15
  ·rw[if_pos t];obtain⟨u,b2,p⟩:=eQ hl (AL v a.pa).1 a.n a.fl;exact Mu m O u j f b2 (wT i _ _ _)
  rw[if_neg t];cases hs:B1 (AK k a.pa)with
  |none=>exact⟨rfl,BY V⟩
  |some s=>
   have b:=Lk hs;have hl:=b.len;simp only;rw[if_neg o];by_cases ta:a.op=16
   ·rw[if_pos ta];have g:(BD s.rs).length<=s.rs.length:=by unfold BD;rw[Qq];exact Zv _ _
    have z:∀n∈BD s.rs,1<=n∧n<=30:=λn g=>by
     obtain⟨x,q,rfl⟩:=Ql.1 g;exact Cc b x (Qr.1 q).1
    refine⟨rfl,DL .done rfl trivial rfl Xn f (by simp[Ek,Bk,Oc.op,He]) ⟨?_,?_⟩ m⟩
    ·grind [Ek,Bk,Oc.op,He]
    ·grind [Ek,Bk,Oc.op,He,DH,IB,Cu,Vk]
   rw[if_neg ta];have tb:=λc=>Ms hl a.ns c
   have tm:=λc=>sT b a.ns c
   by_cases na:a.op=11
   ·rw[if_pos na];exact Mu m (Qn _) (tb 280).1 j f (tb 280).2.1 (λn h=>nomatch h)
   rw[if_neg na];by_cases y:a.op=12
   ·rw[if_pos y];exact Mu m (Qn _) (tb 281).1 j f (tb 281).2.1 (λn h=>nomatch h)
   rw[if_neg y];exact Mu m (by have:=(tb 282).2.2;omega) (tb 282).1 j f (tb 282).2.1 (tm 282)
def RJ{v:Vw}{a:Ak}(m:HD v)(x:Le a)(p:zI [HZ v,HA a]=some (.int .i64 0))(j:Ay a.pa=0)(r:10<=a.op∧a.op<=16):HN v a (CW v a):=by
 refine⟨λk s=>?_,λk s g=>?_,λk s g=>?_,λk=>if(AK k a.pa).2.2=true then 0 else 1,λk=>by dsimp only;split<;>decide,λk d s g=>?_⟩
 ·obtain⟨ol,h⟩:=aWi m x s r;rcases(by omega:a.op=10∨a.op=11∨a.op=12∨a.op=13∨a.op=14∨a.op=15∨a.op=16)with e|e|e|e|e|e|e
  ·exact BJ .o10 a k e p _ _ h
  ·exact BJ .o11 a k e p _ _ h
  ·exact BJ .o12 a k e p _ _ h
  ·exact BJ .o13 a k e p _ _ h
  ·exact BJ .o14 a k e p _ _ h
  ·exact BJ .o15 a k e p _ _ h
  ·exact BJ .o16 a k e p _ _ h
 ·cases hm:(AK k a.pa).2.2 with
  |true=>exact((D9 (v:=v) m j r).1 hm).2
  |false=>
   rw[(D9 (v:=v) m j r).2 hm]at g;exact absurd g (GP (IB j))
 ·cases hm:(AK k a.pa).2.2 with
  |true=>exact absurd ((D9 (v:=v) m j r).1 hm).1 g
  |false=>exact⟨_,_,(D9 (v:=v) m j r).2 hm⟩
 ·cases hm:(AK k a.pa).2.2 with
  |true=>exact absurd ((D9 (v:=v) m j r).1 hm).1 g
  |false=>
   rw[(D9 (v:=v) m j r).2 hm];show(if(CN (A3 k (An 1 a.pa 0) false d) (An 1 a.pa 0)).2.2=true then 0 else 1)<(if(AK k a.pa).2.2=true then 0 else 1);rw[(GO k _ d _).1 rfl,hm];decide
def Ri(v:Vw)(a:Ak)(k:Kn):Oc:=
 if(Fp k ([109,47]++a.pa++[47])).2.2=false then Dq v ([109,47]++a.pa++[47]) true
 else {He v with rep:=Is (.names (decide (Gn a.pa (B4 (Fp k ([109,47]++a.pa++[47])).2.1)=[])) ((qU a.pa (B4 (Fp k ([109,47]++a.pa++[47])).2.1)).take 64))}
def U8{z:Bs}{l:List Bs}(h:Gn z l=[]):qU z l=[]:=by unfold qU iR;rw[h,List.mergeSort_nil];rfl
def aAQ{l:List Bs}(h:∀s∈l,s.length<=1000000):∀s∈B4 l,s.length<=1000000:=λs g=>Qc (Cu (Ou g)) V
def aCE{v:Vw}{a:Ak}(m:HD v)(x:Le a)(p:zI [HZ v,HA a]=some (.int .i64 0))(o:a.op=17):HN v a (Ri v a):=by
 have c:a.pa.length<=1000000:=Ys
 refine⟨λk s=>?_,λk s g=>?_,λk s g=>?_,λk=>if(Fp k ([109,47]++a.pa++[47])).2.2=true then 0 else 1,λk=>by dsimp only;split<;>decide,λk d s g=>?_⟩
 ·have j:k.ls.length<=1000:=by have:=s.ls;omega
  have r:=aJb k ([109,47]++a.pa++[47]) j;unfold Ri;cases hm:(Fp k ([109,47]++a.pa++[47])).2.2 with
  |false=>
   rw[if_pos rfl];rw[hm]at r;exact BJ .o17 a k o p _ _ (aD8 SN ⟨v,a,k⟩ (He v) _ _ (λ_=>rfl) _ _ c r (PF ⟨v,a,k⟩ (He v) _ _ (Io v)))
  |true=>
   rw[if_neg V];rw[hm]at r;obtain⟨u,w⟩:=aOK s ([109,47]++a.pa++[47]);generalize (Fp k ([109,47]++a.pa++[47])).2.1=f at *;have n:=uI f;have i:=aP4 a.pa (B4 f);exact BJ .o17 a k o p _ _ (aQc SN ⟨v,a,k⟩ (He v) _ (λ_=>rfl) _ _ c r u w (decide (Gn a.pa (B4 f)=[])) (qU a.pa (B4 f)) (λb _=>aJj O (aAQ w)) O (λe=>U8 (of_decide_eq_true e)) (I8 ⟨v,a,k⟩ (He v) (.names _ _) (λ_=>rfl) (by show((qU a.pa (B4 f)).take 64).length<=1000;rw[List.length_take];omega) (λe=>by rw[U8 (of_decide_eq_true e)];rfl)))
 ·unfold Ri at g ⊢;cases hm:(Fp k ([109,47]++a.pa++[47])).2.2 with
  |false=>rw[hm,if_pos rfl]at g;simp[Dq]at g
  |true=>
   rw[if_neg V];exact Gu (.names _ _) (if_pos ⟨XE,aDF _ _⟩) (λe=>by rw[U8 (of_decide_eq_true e)];rfl) rfl Xn (PK O) rfl v.se (λ_ _=>rfl) rfl
 ·unfold Ri at g ⊢;cases hm:(Fp k ([109,47]++a.pa++[47])).2.2 with
  |true=>rw[hm,if_neg V]at g;exact absurd rfl g
  |false=>exact⟨_,_,if_pos rfl⟩
 ·unfold Ri at g ⊢;cases hm:(Fp k ([109,47]++a.pa++[47])).2.2 with
  |true=>rw[hm,if_neg V]at g;exact absurd rfl g
  |false=>
   rw[if_pos rfl];show(if(Fp (A3 k ([109,47]++a.pa++[47]) true d) ([109,47]++a.pa++[47])).2.2=true then 0 else 1)<(if(Fp k ([109,47]++a.pa++[47])).2.2=true then 0 else 1);rw[aHo,hm];decide
def NM(a:Ak):Int:=if a.op=18 then 0 else a.n
def E6(k:Kn)(a:Ak):Rw×Int:=Ic (Ei (B1 (AK k a.pa))) (NM a)
def Cj(k:Kn)(a:Ak):Bs:=An 2 a.pa (E6 k a).1.1
def SY(k:Kn)(a:Ak):Bs:=if(CN k (Cj k a)).2.1=true then(CN k (Cj k a)).1 else []
def C5(v:Vw)(a:Ak)(k:Kn):Oc:=
 if(AK k a.pa).2.2=false then Dq v (An 1 a.pa 0) false
 else if(B1 (AK k a.pa)).isSome=false then FJ v 6
 else if(E6 k a).2≠0 then FJ v (E6 k a).2
 else if(CN k (Cj k a)).2.2=false then Dq v (Cj k a) false
 else if a.op=9 then {He v with rep:=Is (.found (E6 k a).1.1 (SY k a))}
 else if(AK k a.ot).2.2=false then Dq v (An 1 a.ot 0) false
 else DX v a.ot (Ei (B1 (AK k a.ot))) (-1) (SY k a)
section
variable{v:Vw}{a:Ak}{k:Kn}
def WC(s:Ir k):(SY k a).length<=400:=by
 grind [SY,qB]
def aGt(r:Rw):rwD r= .agg [.int .i64 r.1,.bool r.2.1,.bool r.2.2]:=rfl
def aWj(m:HD v)(x:Le a)(s:Ir k)(r:a.op=9∨a.op=18):∃ol,Wi ⟨v,a,k⟩ (He v) []=some (.tup [],C5 v a k,ol):=by
 have hp:a.pa.length<=1000000:=Ys
 have g:a.ot.length<=1000000:=by have:=x.ok.ot;omega
 have j:k.es.length<=1000:=by have:=s.es;omega
 have w:=WC (a:=a) s;unfold C5;cases hm:(AK k a.pa).2.2 with
 |false=>
  rw[if_pos rfl];exact⟨_,aD7 ⟨v,a,k⟩ (He v) _ _ _ (λ_=>rfl) (Nv s hp hm)⟩
 |true=>
  rw[if_neg V];have z:=LU (v:=v) (a:=a) s hp hm;have i:=Ec (AK k a.pa);have hl:=i.len;cases hs:(B1 (AK k a.pa)).isSome with
  |false=>
   rw[if_pos rfl];rw[hs]at z;exact⟨_,aD6 ⟨v,a,k⟩ (He v) _ _ _ (λ_=>rfl) z (zS v a k V)⟩
  |true=>
   rw[if_neg V];rw[hs]at z;have t:=aJa (Ei (B1 (AK k a.pa))) (NM a) O;rw[aGt]at t;have c:=oI (Ei (B1 (AK k a.pa))) (NM a);have y:=CY 2 (E6 k a).1.1 a.pa hp;have u:=PH k (Cj k a) j;unfold SY at w ⊢;unfold E6 Cj E6 at *;generalize Ic (Ei (B1 (AK k a.pa))) (NM a)=row at *;obtain⟨⟨n,f,r2⟩,e⟩:=row;simp only at *;by_cases p:e≠0
   ·rw[if_pos p];rcases r with h9|h18
    ·have b:NM a=a.n:=by unfold NM;rw[h9];rfl
     rw[b]at t;exact⟨_,xW ⟨v,a,k⟩ (He v) _ _ _ (λ_=>rfl) z h9 n e f r2 t p (zS v a k O)⟩
    ·have b:NM a=0:=by unfold NM;rw[if_pos h18]
     rw[b]at t;exact⟨_,mO ⟨v,a,k⟩ (He v) _ _ _ (λ_=>rfl) z h18 n e f r2 t p (zS v a k O)⟩
   ·rw[if_neg p];obtain rfl:=Decidable.not_not.1 p;generalize An 2 a.pa n=q at *;generalize CN k q=en at *;obtain⟨t1,t2,t3⟩:=en;simp only at *;rcases r with h9|h18
    ·have b:NM a=a.n:=by unfold NM;rw[h9];rfl
     rw[b]at t;cases t3 with
     |false=>
      rw[if_pos rfl];exact⟨_,xV ⟨v,a,k⟩ (He v) _ _ _ (λ_=>rfl) z h9 n f r2 t q _ _ y u (PF ⟨v,a,k⟩ (He v) q false (Io v))⟩
     |true=>
      rw[if_neg V,if_pos h9];cases t2 with
      |true=>exact⟨_,fR ⟨v,a,k⟩ (He v) _ _ _ (λ_=>rfl) z h9 n f r2 t q _ y u (I8 ⟨v,a,k⟩ (He v) (.found n t1) (λ_=>rfl) trivial trivial)⟩
      |false=>exact⟨_,VQ ⟨v,a,k⟩ (He v) _ _ _ (λ_=>rfl) z h9 n f r2 t q _ y u (I8 ⟨v,a,k⟩ (He v) (.found n []) (λ_=>rfl) trivial trivial)⟩
    ·have b:NM a=0:=by unfold NM;rw[if_pos h18]
     have h9:¬a.op=9:=O
     rw[b]at t;cases t3 with
     |false=>
      rw[if_pos rfl];exact⟨_,mN ⟨v,a,k⟩ (He v) _ _ _ (λ_=>rfl) z h18 n f r2 t q _ _ y u (PF ⟨v,a,k⟩ (He v) q false (Io v))⟩
     |true=>
      rw[if_neg V,if_neg h9];cases hm2:(AK k a.ot).2.2 with
      |false=>
       rw[if_pos rfl];have o:=Nv (v:=v) (a:=a) s g hm2;cases t2 with
       |true=>exact⟨_,N9 ⟨v,a,k⟩ (He v) _ _ (λ_=>rfl) z h18 n f r2 t q _ y u _ _ o⟩
       |false=>exact⟨_,Nm ⟨v,a,k⟩ (He v) _ _ (λ_=>rfl) z h18 n f r2 t q _ y u _ _ o⟩
      |true=>
       rw[if_neg V];have o:=LU (v:=v) (a:=a) s g hm2;cases t2 with
       |true=>
        obtain⟨ol,ka⟩:=aNY (a:=a) (k:=k) m g (Ec (AK k a.ot)) (cas:=-1) (data:=t1) (by simp only[if_true]at w;omega);exact⟨_,fS ⟨v,a,k⟩ (He v) _ _ _ (λ_=>rfl) z h18 n f r2 t q _ y u _ _ o ka⟩
       |false=>
        obtain⟨ol,ka⟩:=aNY (a:=a) (k:=k) m g (Ec (AK k a.ot)) (cas:=-1) (data:=[]) (Qn _);exact⟨_,VR ⟨v,a,k⟩ (He v) _ _ _ (λ_=>rfl) z h18 n f r2 t q _ y u _ _ o ka⟩
def qM(m:HD v)(s:Ir k)(x:Ay a.pa=0)(ea:a.op=18->Ay a.ot=0)(r:a.op=9∨a.op=18):((C5 v a k).need=[]->Lb v a (C5 v a k))∧((C5 v a k).need≠[]->∃q li,C5 v a k=Dq v q li):=by
 have w:=WC (a:=a) s;have fin:∀{o:Oc},o.need=[]->Lb v a o->(o.need=[]->Lb v a o)∧(o.need≠[]->∃q li,o=Dq v q li):=λu y=>⟨λ_=>y,λh=>absurd u h⟩
 have b:∀{q:Bs} {li:Bool},q≠[]->((Dq v q li).need=[]->Lb v a (Dq v q li))∧((Dq v q li).need≠[]->∃g d,Dq v q li=Dq v g d):=λh=>⟨λe=>absurd e h,λ_=>⟨_,_,rfl⟩⟩
 unfold C5;cases hm:(AK k a.pa).2.2 with
 |false=>rw[if_pos rfl];exact b (GP (IB x))
 |true=>
  rw[if_neg V];cases hs:(B1 (AK k a.pa)).isSome with
  |false=>rw[if_pos rfl];exact fin rfl (BY V)
  |true=>
   rw[if_neg V];have c:=oI (Ei (B1 (AK k a.pa))) (NM a);by_cases z:(E6 k a).2≠0
   ·rw[if_pos z];exact fin rfl (BY ⟨by unfold E6 at *;omega,c.2⟩)
   rw[if_neg z];have j:1<=(E6 k a).1.1∧(E6 k a).1.1<=30:=W3 (Ec _) (Decidable.not_not.1 z);cases ht:(CN k (Cj k a)).2.2 with
   |false=>rw[if_pos rfl];exact b (GP (LF x j))
   |true=>
    rw[if_neg V];by_cases i:a.op=9
    ·rw[if_pos i];exact fin rfl (Gu (.found _ _) (if_pos ⟨O,O,w⟩) trivial rfl Xn (PK O) rfl v.se (λ_ _=>rfl) rfl)
    rw[if_neg i];have n:a.op=18:=O
    cases hm2:(AK k a.ot).2.2 with
    |false=>rw[if_pos rfl];exact b (GP (IB (ea n)))
    |true=>
     rw[if_neg V];obtain⟨w1,t⟩:=SQ (v:=v) (a:=a) m (p:=a.ot) (Ec (AK k a.ot)) (cas:=-1) (data:=SY k a) (ea n) (Oj O);exact fin w1 t
def FD(k:Kn)(a:Ak):Nat:=if(AK k a.pa).2.2=false then 3 else if(CN k (Cj k a)).2.2=false then 2 else if(AK k a.ot).2.2=false then 1 else 0
def aGI(k:Kn)(a:Ak):FD k a<=3:=by
 unfold FD
 repeat' split
 all_goals decide
def wH(g:(C5 v a k).need≠[]):((AK k a.pa).2.2=false∧C5 v a k=Dq v (An 1 a.pa 0) false)∨((AK k a.pa).2.2=true∧(CN k (Cj k a)).2.2=false∧C5 v a k=Dq v (Cj k a) false)∨((AK k a.pa).2.2=true∧(CN k (Cj k a)).2.2=true∧(AK k a.ot).2.2=false∧C5 v a k=Dq v (An 1 a.ot 0) false):=by
 unfold C5 at g ⊢;cases hm:(AK k a.pa).2.2 with
 |false=>rw[if_pos rfl];exact .inl ⟨rfl,rfl⟩
 |true=>
  rw[hm,if_neg V]at g;rw[if_neg V];split at g
  ·exact absurd rfl g
  rename_i c1;rw[if_neg c1];split at g
  ·exact absurd rfl g
  rename_i n;rw[if_neg n];cases ht:(CN k (Cj k a)).2.2 with
  |false=>rw[if_pos rfl];exact .inr (.inl ⟨rfl,rfl,rfl⟩)
  |true=>
   rw[ht,if_neg V]at g;rw[if_neg V];split at g
   ·exact absurd rfl g
   rename_i o;rw[if_neg o];cases hm2:(AK k a.ot).2.2 with
   |false=>rw[if_pos rfl];exact .inr (.inr ⟨rfl,rfl,rfl,rfl⟩)
   |true=>
    rw[hm2,if_neg V]at g;unfold DX at g;split at g
    ·exact absurd rfl g
    ·exact absurd rfl g
def wL(d:Dk)(g:(C5 v a k).need≠[]):FD (A3 k (C5 v a k).need (C5 v a k).li d) a<FD k a:=by
 rcases wH g with ⟨u,y⟩|⟨u,y,i⟩|⟨u,y,i,p⟩
 ·rw[y];show FD (A3 k (An 1 a.pa 0) false d) a<FD k a;have e:(AK (A3 k (An 1 a.pa 0) false d) a.pa).2.2=true:=(GO k _ d _).1 rfl;unfold FD;rw[e,u];simp only[ZG,if_false,if_true]
  repeat' split
  all_goals decide
 ·rw[i];show FD (A3 k (Cj k a) false d) a<FD k a;have t:An 1 a.pa 0≠Cj k a:=λe=>by
   unfold AK at u;rw[e,y]at u;cases u
  have e:AK (A3 k (Cj k a) false d) a.pa=AK k a.pa:=(GO k _ d _).2 t.symm;have j:E6 (A3 k (Cj k a) false d) a=E6 k a:=by unfold E6;rw[e]
  have x:Cj (A3 k (Cj k a) false d) a=Cj k a:=by
   show An 2 a.pa (E6 (A3 k (Cj k a) false d) a).1.1=An 2 a.pa (E6 k a).1.1;rw[j]
  have f:(CN (A3 k (Cj k a) false d) (Cj k a)).2.2=true:=(GO k _ d _).1 rfl;unfold FD;rw[e,u,y,x,f];simp only[ZG,if_false,if_true];split<;>decide
 ·rw[p];show FD (A3 k (An 1 a.ot 0) false d) a<FD k a;have t:An 1 a.pa 0≠An 1 a.ot 0:=λe=>by
   unfold AK at u i;rw[e,i]at u;cases u
  have z:Cj k a≠An 1 a.ot 0:=λe=>by
   unfold AK at i;rw[e,i]at y;cases y
  have e:AK (A3 k (An 1 a.ot 0) false d) a.pa=AK k a.pa:=(GO k _ d _).2 t.symm;have j:E6 (A3 k (An 1 a.ot 0) false d) a=E6 k a:=by unfold E6;rw[e]
  have x:Cj (A3 k (An 1 a.ot 0) false d) a=Cj k a:=by
   show An 2 a.pa (E6 (A3 k (An 1 a.ot 0) false d) a).1.1=An 2 a.pa (E6 k a).1.1;rw[j]
  have f:CN (A3 k (An 1 a.ot 0) false d) (Cj k a)=CN k (Cj k a):=(GO k _ d _).2 z.symm;have o:(AK (A3 k (An 1 a.ot 0) false d) a.ot).2.2=true:=(GO k _ d _).1 rfl;unfold FD;rw[e,u,x,f,y,o,i];decide
end
def eK{v:Vw}{a:Ak}(m:HD v)(x:Le a)(p:zI [HZ v,HA a]=some (.int .i64 0))(j:Ay a.pa=0)(b:a.op=18->Ay a.ot=0)(r:a.op=9∨a.op=18):HN v a (C5 v a):=by
 refine⟨λk s=>?_,λk s g=>(qM m s j b r).1 g,λk s g=>(qM m s j b r).2 g,λk=>FD k a,λk=>aGI k a,λk d _ g=>wL d g⟩;obtain⟨ol,h⟩:=aWj m x s r;rcases r with e|e
 ·exact BJ .o9 a k e p _ _ h
 ·exact BJ .o18 a k e p _ _ h
def aHL{v:Vw}{a:Ak}(m:HD v)(x:Le a):∃dec,HN v a dec∧(Im v a≠0->∀k,dec k=FJ v (Im v a))∧(Im v a=0->(a.op<=8∧∀k,SH v a (dec k))∨(a.op=17∧dec=Ri v a)∨(Ay a.pa=0∧(a.op=18->Ay a.ot=0)∧((a.op=9∨a.op=18)∧dec=C5 v a∨(10<=a.op∧a.op<=16)∧dec=CW v a))):=by
 have p:=V8 m.ok x.ok;have o:=aGG v a;by_cases h:Im v a=0
 ·rw[h]at p;have z:=lR h;obtain⟨u,y⟩:=aR6 z x.ok.op0;by_cases s:a.op<=8
  ·obtain⟨dec,X,g⟩:=aHJ m x p z u s;exact⟨dec,X,λe=>absurd h e,λ_=> .inl ⟨s,g⟩⟩
  have j:=aGM z O y;by_cases b:a.op=17
  ·exact⟨_,aCE m x p b,λe=>absurd h e,λ_=> .inr (.inl ⟨b,rfl⟩)⟩
  by_cases i:a.op=9∨a.op=18
  ·exact⟨_,eK m x p j (λe=>P0 z e) i,λe=>absurd h e,λ_=> .inr (.inr ⟨j,λe=>P0 z e,.inl ⟨i,rfl⟩⟩)⟩
  ·exact⟨_,RJ m x p j O,λe=>absurd h e,λ_=> .inr (.inr ⟨j,λe=>P0 z e,.inr ⟨O,rfl⟩⟩)⟩
 ·exact⟨_,aCF p O,λ_ _=>rfl,λe=>absurd e h⟩
def Oh{s:Bs}{q:UInt8}(h:s.length<=1000000):DS [.str s,.str [q]]=some (.slice false [] (strsD (splitC q s))):=if_pos h
def ryQ:Ry->Ry
 | .about s=> .about {s with nl:=decide (s.rs=[])}
 | .names _ l=> .names (decide (l=[])) l
 |y=>y
def ryS:Ry->Prop
 | .fail _=>False
 | .names _ l=>(∀w∈l,(44:UInt8)∉w)∧l≠[[45]]∧CH l<=900000
 |_=>True
def ten{p:Nat->Value->Prop}{vs:Array Value}{k a v2 y f q b c z s:Value}(m:vs=#[k,a,v2,y,f,q,b,c,z,s])(h:∀j v,vs[j]?=some v->p j v):p 0 k∧p 1 a∧p 2 v2∧p 3 y∧p 4 f∧p 5 q∧p 6 b∧p 7 c∧p 8 z∧p 9 s:=by
 subst m;exact⟨h 0 _ rfl,h 1 _ rfl,h 2 _ rfl,h 3 _ rfl,h 4 _ rfl,h 5 _ rfl,h 6 _ rfl,h 7 _ rfl,h 8 _ rfl,h 9 _ rfl⟩
def f93(e:Int):Array Value:=#[.int .u8 0,.int .i64 e,.int .i64 0,.string ⟨#[]⟩,.slice none 0 0,.int .i64 0,.bool false,.int .i64 0,.slice none 0 0,.bool false]
inductive Psd:Bs->D->Prop
 |none:Psd [] (.tup [.agg (HQ (.fail 0)),.int .i64 4])
 |fail (e:Int) (s:Bs):1<=e∧e<=99->splitC 32 s=Om (.fail e)->Psd s (.tup [.agg (HQ (.fail e)),.int .i64 0])
 |ok (y:Ry) (s:Bs):ryG y->ryS y->Mo y=0->splitC 32 s=Om y->Psd s (.tup [.agg (HQ (ryQ y)),.int .i64 0])
structure Md where
 vw:Vw
 tr:Tr
 room:Int
def Hn(m:Md):List D:=HH m.vw++[Hj m.tr,.int .i64 m.room]
def DJ(x:Op1)(t:Tr):Tr:=if x.1=1 then t.put x.2.1 x.2.2 else if x.1=2 then Tr.delT x.2.1 t else if x.1=3 then Tr.dropT x.2.1 t else t
def BK:List Op1->Tr->Tr
 |[],t=>t
 |x::r,t=>BK r (DJ x t)
def Br(t:Tr)(q:Bs):List (Bs×Bs):=(t.lst.drop (t.rank q)).takeWhile λx=>A7 x.1 q
def Fa(t:Tr)(q:Bs):Dk:=⟨false,[(q,(t.get q).getD [],(t.get q).isSome)],false,[(q,(Br t q).isEmpty,(Br t q).map (·.1))]⟩
def UE(dec:Kn->Oc)(t:Tr):Nat->Kn->Oc
 |0,k=>dec k
 |f+1,k=>if(dec k).need=[]then dec k else UE dec t f (A3 k (dec k).need (dec k).li (Fa t (dec k).need))
def kn0:Kn:=⟨[],[]⟩
structure yC (t:Tr) (room:Int):Prop where
 ord:Tr.Ord t.lst
 key:∀x∈t.lst,x.1.length<=100
 val:∀x∈t.lst,x.2.length<=400
 wgt:(Tr.weighL t.lst:Int)<=room
 top:room<=70000
structure Sk (m:Md):Prop where
 vw:HD m.vw
 tr:yC m.tr m.room
def yC.len{t:Tr}{room:Int}(h:yC t room):t.lst.length<=1945:=by
 have u:=Tr.weigh_len t.lst;have:=h.wgt;have:=h.top;omega
structure KnJ (k:Kn) (j:Nat):Prop where
 es:k.es.length<=j
 ls:k.ls.length<=j
 et:∀x∈k.es,x.2.1.length<=400
 lt:∀x∈k.ls,x.2.2.length<=2000∧∀s∈x.2.2,s.length<=1000000
def KnJ.ok{k:Kn}{j:Nat}(h:KnJ k j)(q:j<=20):Ir k:=⟨Qc h.es q,Qc h.ls q,h.et,h.lt⟩
def aKK:KnJ kn0 0:=⟨Qf _,Qf _,λx q=>XG,λx q=>XG⟩
def aOM(t:Tr)(q:Bs):((Fa t q).lss.find? λx=>decide (x.1=q))=some (q,(Br t q).isEmpty,(Br t q).map (·.1)):=by simp[Fa]
def aON(t:Tr)(q:Bs):((Fa t q).its.find? λx=>decide (x.1=q))=some (q,(t.get q).getD [],(t.get q).isSome):=by simp[Fa]
def cW(k:Kn)(t:Tr)(q:Bs):A3 k q false (Fa t q)={k with es:=k.es++[(q,(t.get q).getD [],(t.get q).isSome)]}:=by
 unfold A3;rw[if_neg V,aON];rfl
def cV(k:Kn)(t:Tr)(q:Bs):A3 k q true (Fa t q)={k with ls:=k.ls++[(q,(Br t q).isEmpty,(Br t q).map (·.1))]}:=by
 unfold A3;rw[if_pos rfl,aOM];rfl
def nO(t:Tr)(q:Bs):(Br t q).Sublist t.lst:=(List.takeWhile_sublist _).trans (ZK _ _)
def KnJ.learn{k:Kn}{j:Nat}(h:KnJ k j){t:Tr}{room:Int}(p:yC t room)(q:Bs)(li:Bool):KnJ (A3 k q li (Fa t q)) (j+1):=by
 cases li with
 |false=>
  rw[cW];refine⟨by simp only[QD,Qk,Qy];have:=h.es;omega,ZL h.ls,λx hx=>?_,h.lt⟩;rcases Qw.1 hx with hx|hx
  ·exact h.et x hx
  ·rw[Qb.1 hx];show((t.get q).getD []).length<=400;cases hg:t.get q with
   |none=>exact Qn _
   |some v=>
    rw[Tr.get_lst q t p.ord]at hg;exact p.val _ (Tr.getL_some hg)
 |true=>
  rw[cV];refine⟨ZL h.es,by simp only[QD,Qk,Qy];have:=h.ls;omega,h.et,λx hx=>?_⟩;rcases Qw.1 hx with hx|hx
  ·exact h.lt x hx
  ·rw[Qb.1 hx];have g:=nO t q;refine⟨?_,λs ta=>?_⟩
   ·show((Br t q).map (·.1)).length<=2000;rw[Qq];have:=g.length_le;have:=p.len;omega
   ·obtain⟨y,o,rfl⟩:=Ql.1 ta;exact Qc (p.key y (g.subset o)) V
def oD{v:Vw}{a:Ak}{dec:Kn->Oc}(X:HN v a dec){R:Kn->Nat}(r:∀k d,Ir k->(dec k).need≠[]->R (A3 k (dec k).need (dec k).li d)<R k){t:Tr}{room:Int}(p:yC t room):
  ∀(f j:Nat)(k:Kn),KnJ k j->j+f<=20->R k<=f->∃w,Ir w∧UE dec t f k=dec w∧(dec w).need=[]
 |0,j,k,hk,hj,hr=>by
  have z:=hk.ok O;refine⟨k,z,rfl,?_⟩;by_cases g:(dec k).need=[]
  ·exact g
  ·have:=r k (Fa t []) z g;omega
 |f+1,j,k,hk,hj,hr=>by
  have z:=hk.ok O;unfold UE;by_cases g:(dec k).need=[]
  ·rw[if_pos g];exact⟨k,z,rfl,g⟩
  ·rw[if_neg g];have:=r k (Fa t (dec k).need) z g;exact oD X r p f (j+1) _ (hk.learn p _ _) O O
def aFZ{v:Vw}(m:HD v)(b:Bool):HD {v with se:=b}:=⟨⟨m.ok.ml,m.ok.mp,m.ok.kl,m.ok.kp⟩,m.inv,m.srt,m.nlm,m.te,m.kl,m.ml,m.mr⟩
def FT(dec:Kn->Oc)(m:Md):Oc:=UE dec m.tr 4 kn0
def NJ{m:Md}(j:Sk m){a:Ak}{dec:Kn->Oc}(X:HN m.vw a dec):(FT dec m).need=[]∧∃k,Ir k∧FT dec m=dec k:=by
 obtain⟨R,i,r⟩:=X.term;obtain⟨k,u,y,p⟩:=oD X r j.tr 4 0 kn0 aKK V (Qc (i _) V);exact⟨(congrArg Oc.need y).trans p,k,u,y⟩
def CO(m:Md)(o:Oc):Md×Bs:=
 if o.ops≠[]∧m.room<Tr.weighL (BK o.ops m.tr).lst then(m,Is (.fail 7))else(⟨o.vw,BK o.ops m.tr,m.room⟩,o.rep)
def DI(x:Op1){t:Tr}(h:Tr.Ord t.lst):Tr.Ord (DJ x t).lst∧∀y∈(DJ x t).lst,y∈t.lst∨(x.1=1∧y=(x.2.1,x.2.2)):=by
 unfold DJ;split
 ·rename_i c;rw[Tr.lst_put _ _ t h];exact⟨Tr.ins_ord h _ _,λy o=>(Tr.ins_mem o).elim (λe=> .inr ⟨c,e⟩) .inl⟩
 split
 ·rw[Tr.lst_del _ t h];exact⟨Tr.ord_sub QN h,λy o=> .inl (Qr.1 o).1⟩
 split
 ·rw[Tr.lst_drop _ t h];exact⟨Tr.ord_sub (Tr.drop_sub _ h) h,λy o=> .inl ((Tr.drop_sub _ h).subset o)⟩
 ·exact⟨h,λy o=> .inl o⟩
def MF:∀(l:List Op1){t:Tr},Tr.Ord t.lst->Tr.Ord (BK l t).lst∧∀y∈(BK l t).lst,y∈t.lst∨∃x∈l,x.1=1∧y=(x.2.1,x.2.2)
 |[],t,h=>⟨h,λy o=> .inl o⟩
 |x::r,t,h=>by
  obtain⟨u,f⟩:=DI x h;obtain⟨i,p⟩:=MF r u;refine⟨i,λy o=>?_⟩;rcases p y o with h5|⟨z,j,h5⟩
  ·rcases f y h5 with h6|h6
   ·exact .inl h6
   ·exact .inr ⟨x,Qj,h6⟩
  ·exact .inr ⟨z,Qh _ j,h5⟩
def aGf{t:Tr}{room:Int}(h:yC t room){l:List Op1}(hl:H6 l)(f:(Tr.weighL (BK l t).lst:Int)<=room):yC (BK l t) room:=by
 obtain⟨u,y⟩:=MF l h.ord;refine⟨u,λx q=>?_,λx q=>?_,f,h.top⟩
 ·rcases y x q with h3|⟨z,j,_,rfl⟩
  ·exact h.key x h3
  ·exact(hl.ok z j).1.1
 ·rcases y x q with h3|⟨z,j,_,rfl⟩
  ·exact h.val x h3
  ·exact(hl.ok z j).1.2.1
structure aXK (m:Md) (a:Ak) (z:Md×Bs):Prop where
 md:Sk z.1
 room:z.1.room=m.room
 key:z.1.vw.key=m.vw.key
 rep:∃y,Mo y=0∧ryN y∧z.2=Is y∧((∃e,y= .fail e)->z.1=m)
 ro:(a.op=1∨a.op=9∨a.op=14∨a.op=17)->z.1=m
def Ph{m:Md}(j:Sk m){a:Ak}{o:Oc}(hg:Lb m.vw a o):aXK m a (CO m o):=by
 obtain⟨y,u,f,i,p⟩:=hg;have c:Eb a.op=true->¬(a.op=1∨a.op=9∨a.op=14∨a.op=17):=λt h=>by
  rw[PK O]at t;cases t
 unfold CO;by_cases z:o.ops≠[]∧m.room<Tr.weighL (BK o.ops m.tr).lst
 ·rw[if_pos z];exact⟨j,rfl,rfl,⟨.fail 7,rfl,trivial,rfl,λ_=>rfl⟩,λ_=>rfl⟩
 rw[if_neg z];rcases p with ⟨_,q,n⟩|⟨q,⟨t,n,b,k,h7⟩|⟨t,n,h7,s,h9⟩⟩
 ·rw[q,n];exact⟨j,rfl,rfl,⟨y,u,f,i,λ_=>rfl⟩,λ_=>rfl⟩
 ·rw[n,h7];refine⟨⟨aFZ j.vw b,j.tr⟩,rfl,rfl,⟨y,u,f,i,λ⟨e,r⟩=>absurd r (q e)⟩,λx=>?_⟩;rw[k O O];rfl
 ·refine⟨⟨s,aGf j.tr h7 ?_⟩,rfl,h9,⟨y,u,f,i,λ⟨e,r⟩=>absurd r (q e)⟩,λx=>absurd x (c t)⟩;have:¬m.room<Tr.weighL (BK o.ops m.tr).lst:=λh=>z ⟨n,h⟩
  omega
def aAb{α:Type}{p:α->Bool}:∀{l:List α} {k:Nat} (h:k<(l.takeWhile p).length),l[k]?=some (l.takeWhile p)[k]∧p (l.takeWhile p)[k]=true
 |[],k,h=>Xd
 |x::l,k,h=>by
  by_cases c:p x=true
  ·have e:(x::l).takeWhile p=x::l.takeWhile p:=by simp[c]
   simp only[e]at h ⊢;cases k with
   |zero=>exact⟨rfl,c⟩
   |succ k=>
    have:=aAb (l:=l) (p:=p) (k:=k) Xo;simpa using this
  ·have e:(x::l).takeWhile p=[]:=by simp[c]
   simp[e]at h
def aAd{α:Type}{p:α->Bool}:∀{l:List α},(∀x∈l,p x=true)->l.takeWhile p=l
 |[],_=>rfl
 |x::l,h=>by
  have c:=h x Qj;have e:(x::l).takeWhile p=x::l.takeWhile p:=by simp[c]
  rw[e,aAd λy o=>h y (Qh _ o)]
def aAc{α:Type}{p:α->Bool}:∀{l:List α} {x:α},l[(l.takeWhile p).length]?=some x->p x=false
 |[],x,h=>Xd
 |y::l,x,h=>by
  by_cases c:p y=true
  ·have e:(y::l).takeWhile p=y::l.takeWhile p:=by simp[c]
   rw[e]at h;exact aAc (l:=l) Xo
  ·have e:(y::l).takeWhile p=[]:=by simp[c]
   rw[e]at h;simp only[Qy,Qu,Qx]at h;subst h;simpa using c
def aN6{t:Tr}{q:Bs}{k:Nat}(h:k<(Br t q).length):t.at_ (t.rank q+k)=some (Br t q)[k]∧A7 (Br t q)[k].1 q=true:=by
 rw[Tr.at_lst];have:=aAb (l:=t.lst.drop (t.rank q)) (p:=λx=>A7 x.1 q) h;rw[ZH]at this;exact this
def aF1{t:Tr}{q:Bs}{x:Bs×Bs}(h:t.at_ (t.rank q+(Br t q).length)=some x):A7 x.1 q=false:=by
 rw[Tr.at_lst]at h;refine aAc (l:=t.lst.drop (t.rank q)) (p:=λx=>A7 x.1 q) ?_;rw[ZH];exact h
def W7:∀t:Tr,t.rank []=0
 | .nil=>rfl
 | .node l k v r=>by
  unfold Tr.rank;rw[if_neg (by cases k<;>simp[Hp,Op.bytesLess])];exact W7 l
def Fu(t:Tr):Br t []=t.lst:=by
 unfold Br;rw[W7,List.drop_zero];exact aAd λx _=>XB
def iH(x:Bs×Bs)(l:List (Bs×Bs)):Tr.weighL (x::l)=Tr.costL x+Tr.weighL l:=by
 simp only[Tr.weighL,QH,ZB];omega
def iG(x:Bs×Bs)(l:List (Bs×Bs)):Tr.weighL (l++[x])=Tr.weighL l+Tr.costL x:=by
 simp only[Tr.weighL,Za,QH,Zc,List.sum_append,ZB,List.sum_nil];omega
end Go.Vd
namespace Go.Vd
open Go.Proofs Go.RowKit Go.Shelf
attribute [local go_sem] Oper.semAt_some
def DR(n:Nat)(w:World)(t:Tr)(v:Value):Prop:=∃G:Nat->Nat,Rep w (Gh.base G) (Hj t) v∧∀b,n<=b->G b=0
def DR.below{n:Nat}{w s:World}{t:Tr}{v:Value}(h:DR n w t v)(o:Below n w s):DR n s t v:=by
 obtain⟨G,u,y⟩:=h;refine⟨G,u.calm_to (Wy t) (λp c=>?_) (λ_=>Qf _),y⟩;have:p.block<n:=by
  rcases Z4 p.block n with h|h
  ·exact h
  ·have i:p.off<G p.block:=c;rw[y _ h]at i;omega
 exact o.cell this
def DR.one{n:Nat}{w:World}{t:Tr}{v:Value}(h:DR n w t v):v.oneCell'=true:=by
 obtain⟨G,u,_⟩:=h;exact u.leaf_one Xi
def R2{w:World}{g:Gh}{d:D}{v:Value}(h:Rep w g d v)(q:v.oneCell'=true):Rep w g (.agg [d]) (.agg #[v]):=
 .agg [d] [v] rfl (λu z=>by rw[Qb.1 z];exact q) (λj n f p m=>by
  match j,p,m with
  |0,p,m=>cases p;cases m;exact h)
def aVb{n:Nat}{s:World}{t:Tr}{v:Value}(h:DR n s t v)(g:n<=s.heap.size)(q:Bs)(z:t.cnt<=900000):Calls QC 49 #[.agg #[v],encStr q] s λe m=>e= .returned (.int .i64 (t.rank q:Nat))∧Below s.heap.size s m:=by
 have h1:=h.one;obtain⟨G,y,i⟩:=h;refine(Em (vs:=[.agg #[v],encStr q]) (G:=G) aPk (aE0 t q z) Xi Xi rfl (λj d u p c=>?_) (λb o=>i b O)).mono ?_
 ·match j,p,c with
  |0,p,c=>cases p;cases c;exact R2 y h1
  |1,p,c=>cases p;cases c;exact .str _
 ·rintro e m ⟨u,x,rfl,o,r⟩;exact⟨Xy,o⟩
def aVa{n:Nat}{s:World}{t:Tr}{v:Value}(h:DR n s t v)(g:n<=s.heap.size)(i:Nat)(z:t.cnt<=900000)(hi:i<=900000):Calls QC 50 #[.agg #[v],.int .i64 (i:Nat)] s λe m=>e= .returned (.tuple #[encStr ((t.at_ i).getD ([],[])).1,encStr ((t.at_ i).getD ([],[])).2,.bool (t.at_ i).isSome])∧Below s.heap.size s m:=by
 have q:=h.one;obtain⟨G,y,x⟩:=h;refine(Em (vs:=[.agg #[v],.int .i64 (i:Nat)]) (G:=G) aPj (aEZ t i z hi) Xi Xi rfl (λj d u p c=>?_) (λb o=>x b O)).mono ?_
 ·match j,p,c with
  |0,p,c=>cases p;cases c;exact R2 y q
  |1,p,c=>cases p;cases c;exact .int _ _
 ·rintro e m ⟨u,g',rfl,o,r⟩;unfold atD at r;obtain⟨us,rfl,f,c⟩:=r.tup_inv
  match us,f with
  |[u0,u1,u2],_=>exact⟨by rw[(c 0 _ u0 rfl rfl).str_inv,(c 1 _ u1 rfl rfl).str_inv,(c 2 _ u2 rfl rfl).bool_inv],o⟩
def aNc(y:World)(s p:Bs):Calls QC 51 #[encStr s,encStr p] y λe m=>e= .returned (.bool (A7 s p))∧Below y.heap.size y m:=by
 refine(IF aPi (aEY s p) rfl y).mono ?_;rintro e m ⟨u,q,rfl,o,r⟩;exact⟨by rw[r.bool_inv],o⟩
structure gO (n Bt Bq:Nat) (W W':World):Prop where
 low:Below n W W'
 t:W'.heap[Bt]?=W.heap[Bt]?
 q:W'.heap[Bq]?=W.heap[Bq]?
def gO.trans{n Bt Bq:Nat}{A B C:World}(h:gO n Bt Bq A B)(k:gO n Bt Bq B C):gO n Bt Bq A C:=⟨h.low.trans k.low,k.t.trans h.t,k.q.trans h.q⟩
def gO.refl{n Bt Bq:Nat}(A:World):gO n Bt Bq A A:=⟨Below.refl _ _,rfl,rfl⟩
def gO.of{n Bt Bq:Nat}{A B:World}(h:Below A.heap.size A B)(g:n<=A.heap.size)(p:Bt<A.heap.size)(v:Bq<A.heap.size):gO n Bt Bq A B:=⟨h.mono g,h.block _ p,h.block _ v⟩
def pI{n Bt Bq:Nat}{w:World}(g:n<=w.heap.size)(p:Bt<w.heap.size)(v:Bq<w.heap.size)(W:World)(l:Nat)(o o':Obj)(hl:w.heap.size<=l)(h:W.heap[l]?=some o)(u:o.isCells=false)(y:o.isWalk=false):gO n Bt Bq W (W.putObj l o'):=
 ⟨belowK_b g W l o o' hl h u y,World.putObj_heap_other O,World.putObj_heap_other O⟩
def T9{α:Type}{B:Nat}{J:List α->World->Prop}(k:AbidesFrom B J){s:List α}{A c:World}(h:J s A)(o:Below A.heap.size A c):J s c:=
 k s A c none h (B7 o (Qf _) none o.size) (λr e=>Xv)
theorem aF2 (n : Nat) (hn : 1 ≤ n) (l Bt Bq n₀ : Nat) (t : Tr) (q : Bs) (v : Value) (hc : t.cnt ≤ 400000) (J Jx : List (Bs × Bs) → World → Prop) {B : Nat} (hJ : AbidesFrom B J) (y : AbidesFrom B Jx)
  (hY : ∀ pre x W, J pre W → (pre ++ [x]) <+: Br t q → YieldAt Fence.wide (n - 1) QC l #[encStr x.1, encStr x.2] W fun e W' =>
   (e = .returned (.bool true) ∧ J (pre ++ [x]) W' ∧ gO n₀ Bt Bq W W') ∨ (e = .returned (.bool false) ∧ Jx (pre ++ [x]) W'))
  (W : World) (o : W.heap[Bt]? = some (.cells #[v] 36 (0, 0))) (d : W.heap[Bq]? = some (.cells #[encStr q] 9 (0, 0))) (hT : DR n₀ W t v) (la : n₀ ≤ W.heap.size) (h0 : J [] W) :
  CallsIn Fence.wide n QC 48 #[.func (.yield l) #[] #[], .pointer (some ⟨Bt, 0, none⟩), .pointer (some ⟨Bq, 0, none⟩)] W fun e W' => (∃ u, e = .returned u) ∧
   ((∃ ys, ys = Br t q ∧ J ys W') ∨ (∃ pre, pre <+: Br t q ∧ Jx pre W')) := by
 have ja : t.rank q + (Br t q).length ≤ 800001 := by
  have h1 := (nO t q).length_le
  have h2 : t.rank q ≤ t.cnt := by
   have : ∀ t : Tr, t.rank q ≤ t.cnt := by
    intro t
    induction t with
    | nil => exact Qf _
    | node l k v r ih1 ih2 => unfold Tr.rank; simp only [Tr.cnt]; split <;> omega
   exact this t
  rw [Tr.cnt_lst] at h1
  omega
 refine callsIn_of_wp func48 rfl trivial ?_ rfl
 simp only [ntmps48, QZ, Qk, Qy, Qs, QP, QT, QU, Q_, QV, Qd, Qe]
 have ct := Ef o
 have cq := Ef d
 gi_wp2_with (refine ⟨trivial, ?_⟩; gi_at_call 49; refine (callsIn_wide.2 (aVb hT la q O)).mono ?_; rintro e w1 ⟨rfl, fa⟩)
 have ya := T9 hJ h0 fa
 have z := hT.below (fa.mono la)
 have za : Bt < W.heap.size := (Qm.1 o).1
 have ab : Bq < W.heap.size := (Qm.1 d).1
 have k1 := (fa.block _ za).trans o
 have k2 := (fa.block _ ab).trans d
 have xa := Qc la fa.size
 gi_loopw [4] (fun i wr => ∃ k : Nat, k ≤ (Br t q).length ∧ i = .int .i64 ((t.rank q : Int) + (k : Int)) ∧ J ((Br t q).take k) wr ∧ n₀ ≤ wr.heap.size ∧ wr.heap[Bt]? = some (.cells #[v] 36 (0, 0)) ∧ wr.heap[Bq]? = some (.cells #[encStr q] 9 (0, 0)) ∧ DR n₀ wr t v)
  (fun i _ => t.rank q + (Br t q).length - (RowKit.intOf i).toNat)
 case atStart => exact ⟨0, Qn _, U, ya, xa, k1, k2, z⟩
 case round =>
  obtain ⟨k, hk, rfl, c, ta, r1, r2, ra⟩ := hrel
  have ba := Ef r1
  have p := Ef r2
  have a := aVa ra ta (t.rank q + k) O O
  rw [Int.natCast_add] at a
  by_cases da : k < (Br t q).length
  ·obtain ⟨u1, u2⟩ := aN6 da
   rw [u1] at a
   obtain ⟨x, hx⟩ : ∃ x, (Br t q)[k] = x := ⟨_, rfl⟩
   rw [hx] at a u2
   simp only [QI, Qp] at a
   have wa : (Br t q).take k ++ [x] = (Br t q).take (k + 1) := by rw [← hx]; exact (QL da).symm
   have aa : ((Br t q).take k ++ [x]) <+: Br t q := by rw [wa]; exact ZQ _ _
   gi_wp2_with (first
    | (refine ⟨trivial, ?_⟩; gi_at_call 50; refine (callsIn_wide.2 a).mono ?_; rintro e w2 ⟨rfl, na⟩; have w := EV na p)
    | (refine ⟨trivial, ?_⟩; gi_at_call 51; refine (callsIn_wide.2 (aNc _ x.1 q)).mono ?_; rintro e w3 ⟨rfl, ea⟩; rw [u2]; obtain ⟨fn, tmps, m, b, hy, hR⟩ := hY _ x w3 (T9 hJ (T9 hJ c na) ea) aa))
   refine hR.mono ?_
   have z3 : n₀ ≤ w3.heap.size := by have := na.size; have := ea.size; omega
   have l1 : Bt < wr.heap.size := (Qm.1 r1).1
   have l2 : Bq < wr.heap.size := (Qm.1 r2).1
   have j : Below wr.heap.size wr w3 := na.trans (ea.mono na.size)
   rintro e W4 (⟨rfl, s, f⟩ | ⟨rfl, g⟩)
   ·gi_wp2
    go_roundw
    case rel =>
     refine ⟨k + 1, O, ?_, by rw [← wa]; exact s, Qc z3 f.low.size, f.t.trans ((j.block _ l1).trans r1), f.q.trans ((j.block _ l2).trans r2), (ra.below (j.mono ta)).below f.low⟩
     simp
     omega
    case measure => simp [RowKit.intOf]; omega
   ·gi_wp2
    refine bodyPost_ret (results_none rfl _ _ _) rfl ?_
    exact ⟨⟨_, rfl⟩, .inr ⟨_, ZQ (k + 1) _, by rw [← wa]; exact g⟩⟩
  ·obtain rfl : k = (Br t q).length := by omega
   cases ha : t.at_ (t.rank q + (Br t q).length) with
   | none =>
    rw [ha] at a
    simp only [Zo, Zf] at a
    gi_wp2_with (refine ⟨trivial, ?_⟩; gi_at_call 50; refine (callsIn_wide.2 a).mono ?_; rintro e w2 ⟨rfl, na⟩)
    refine ⟨trivial, ?_⟩
    gi_wp2
    refine ⟨fun _ h => Xc, ?_⟩
    gi_wp2
    refine bodyPost_ret (results_none rfl _ _ _) rfl ?_
    rw [Q6] at c
    exact ⟨⟨_, rfl⟩, .inl ⟨_, rfl, T9 hJ c na⟩⟩
   | some x =>
    have u2 := aF1 ha
    rw [ha] at a
    simp only [QI, Qp] at a
    gi_wp2_with (first
     | (refine ⟨trivial, ?_⟩; gi_at_call 50; refine (callsIn_wide.2 a).mono ?_; rintro e w2 ⟨rfl, na⟩; have w := EV na p)
     | (refine ⟨trivial, ?_⟩; gi_at_call 51; refine (callsIn_wide.2 (aNc _ x.1 q)).mono ?_; rintro e w3 ⟨rfl, ea⟩; rw [u2]))
    refine ⟨fun _ h => Xc, ?_⟩
    gi_wp2
    refine bodyPost_ret (results_none rfl _ _ _) rfl ?_
    rw [Q6] at c
    exact ⟨⟨_, rfl⟩, .inl ⟨_, rfl, T9 hJ (T9 hJ c na) ea⟩⟩
end Go.Vd
namespace Go.Vd
open Go.Proofs Go.RowKit
def aC5:=y2 f79 [] []
def M9:=y3 f38 2 [] []
def aDh:=y2 f38 [] [(2,M9)]
def RN:=y2 f11 [(5,[(2,0)]),(8,[(6,8)]),(9,[(1,0)]),(10,[(4,2)]),(11,[(3,2)])] []
def aDo:=y2 f17 [] []
def aDn:=y2 f18 [] []
def aDd:=y2 f46 [] []
def lO:=y2 f16 [] []
def aDk:=y2 f32 [] []
def M0:=y3 f75 4 [] []
def aC8:=y2 f75 [] [(4,M0)]
def aDj:=y2 f33 [] []
def M_:=y3 f76 4 [] []
def aC7:=y2 f76 [] [(4,M_)]
def aC6:=y2 f77 [] []
def aC9:=y2 f71 [] []
def aDi:=y2 f36 [(4,[(1,0),(2,0),(3,0)]),(5,[(1,0),(3,0)]),(6,[(1,0)])] []
def VG:=y2 f34 [(6,[(1,2)])] []
def Nc:=y3 f10 3 [] []
def aDr:=y2 f10 [] [(3,Nc)]
def Nd:=y3 f8 4 [] []
def aDt:=y2 f8 [] [(4,Nd)]
def aDs:=y2 f9 [] []
attribute [local go_sem] Oper.semAt_some
def aVS:=Ar []
def aNz:=RF aVS aC5 [.t 4] 12
def aPb:Kq aNz 79:=Ap (Aj func79) Ad
def aEQ(k:Bs)(n:Nat)(s:k.length<=1000000)(g:n<=1000000):aNz [.str k,.int .i64 (n:Nat)]=some (.int .i64 ((36+k.length+min n 1048576:Nat):Int)):=by
 refine Al (Qa rfl) ?_;unfold aC5;have w:IntKind.i64.wrap (36+(k.length:Int))=((36+k.length:Nat):Int):=Xh
 have m:max (0:Int) (min (n:Int) 1048576)=((min n 1048576:Nat):Int):=O
 have j:IntKind.i64.wrap (((36+k.length:Nat):Int)+((min n 1048576:Nat):Int))=((36+k.length+min n 1048576:Nat):Int):=Xh
 simp only[Hb,↓C2,G7,simprocAttr,w,m,j]
 all_goals exact Y6
open Go.Shelf
def aU9(y:World)(k:Bs)(n:Nat)(s:k.length<=1000000)(g:n<=1000000):Calls QC 79 #[encStr k,.int .i64 (n:Nat)] y λe m=>e= .returned (.int .i64 ((36+k.length+min n 1048576:Nat):Int))∧Below y.heap.size y m:=by
 refine(IF aPb (aEQ k n s g) rfl y).mono ?_;rintro e m ⟨u,q,rfl,o,r⟩;exact⟨Xy,o⟩
abbrev Ob(t:Tr)(q:Bs):={x:Bs×Bs // x∈Br t q}
def Lf(n:Nat)(g:1<=n)(Bt Bq n₀:Nat)(t:Tr)(q:Bs)(v:Value)(z:t.cnt<=400000)(w:World)(o:w.heap[Bt]?=some (.cells #[v] 36 (0,0)))(d:w.heap[Bq]?=some (.cells #[encStr q] 9 (0,0)))(hT:DR n₀ w t v)(k:n₀<=w.heap.size):
  SeqStopsK Fence.wide n QC 48 #[.pointer (some ⟨Bt,0,none⟩),.pointer (some ⟨Bq,0,none⟩)] (λx:Ob t q=>#[encStr x.1.1,encStr x.1.2]) (gO n₀ Bt Bq) (λys=>ys.map (·.1)=Br t q) (λpre=>pre.map (·.1)<+:Br t q) (Br t q).length w:=λl J Jx W hW hJ y hY m=>by
 refine(aF2 n g l Bt Bq n₀ t q v z (λpre W=>∃p:List (Ob t q),p.map (·.1)=pre∧J p W) (λpre W=>∃p:List (Ob t q),p.map (·.1)=pre∧Jx p W) (B:=W.heap.size) (λs A B row i a j=>?_) (λs A B row i a j=>?_) (λpre x W1 b c=>?_) W ((hW.block _ (Qm.1 o).1).trans o) ((hW.block _ (Qm.1 d).1).trans d) (hT.below (hW.mono k)) (Qc k hW.size) ⟨[],rfl,m⟩).mono ?_
 ·obtain⟨p,e,h⟩:=i;exact⟨p,e,hJ p A B row h a j⟩
 ·obtain⟨p,e,h⟩:=i;exact⟨p,e,y p A B row h a j⟩
 ·obtain⟨p,rfl,h⟩:=b;have hx:x∈Br t q:=c.subset (Zw _ (Qb.2 rfl));have hl:p.length<(Br t q).length:=by
   have:=c.length_le;simp only[QD,Qq,Qk,Qy]at this;omega
  refine(hY p ⟨x,hx⟩ W1 h hl).mono ?_;rintro e W' (⟨rfl,u,f⟩|⟨rfl,u⟩)
  ·exact .inl ⟨rfl,⟨_,U,u⟩,f⟩
  ·exact .inr ⟨rfl,_,U,u⟩
 ·rintro e W' ⟨r,⟨ys,rfl,p,u,f⟩|⟨pre,m,p,rfl,f⟩⟩
  ·exact⟨r,.inl ⟨p,u,f⟩⟩
  ·exact⟨r,.inr ⟨p,m,f⟩⟩
def rA(w:World)(v:Value)(q:Bs):Calls QC 21 #[.agg #[v],encStr q] w λe m=>e= .returned (.func (.func 48) #[] #[.pointer (some ⟨w.heap.size,0,none⟩),.pointer (some ⟨w.heap.size+1,0,none⟩)])∧m=(w.alloc (.cells #[v] 36 (0,0))).alloc (.cells #[encStr q] 9 (0,0)):=by
 go_enter func21,ntmps21
 go_wp2
 go_ret
 exact Y_
def mA{α:Type}(B:Nat)(T:TypeId)(f:List α->Value):Own (λ(s:List α) W=>Boxed W B T (f s)):=λs A c row g a j=>g.kept a (λe=>by
 obtain⟨o,v,z⟩:=j _ e.symm;rw[show A.heap[B]?=_ from g]at v;cases v;cases z)
def ME{α:Type}(m:Nat):Own (λ(_:List α) W=>m<=W.heap.size):=λs A c row g a j=>Qc g a.size
def aFU{n B Bt Bq:Nat}{w W j:World}{T:TypeId}{u:Value}(f:Value)(v:Below n w W)(o:Boxed W B T u)(b:Below W.heap.size W j)(g:n<=B)(q:Bt≠B)(y:Bq≠B)(i:Bt<W.heap.size)(p:Bq<W.heap.size)(z:n<=W.heap.size):
  KeepsOthers W (j.setCell ⟨B,0,none⟩ f)∧gO n Bt Bq W (j.setCell ⟨B,0,none⟩ f)∧Boxed (j.setCell ⟨B,0,none⟩ f) B T f∧Below n w (j.setCell ⟨B,0,none⟩ f)∧W.heap.size<=(j.setCell ⟨B,0,none⟩ f).heap.size:=by
 have t:Boxed j B T u:=(b.block _ o.lt).trans o;refine⟨(KeepsOthers.of_grownBy (B7 b (Qf _) none b.size) (λ_ _ e=>Xv)).trans (KeepsOthers.setCell _ _ _),⟨(b.mono z).setCell g _,?_,?_⟩,t.set _,(v.trans (b.mono z)).setCell g _,?_⟩
 ·rw[Below.heap_setCell _ _ _ _ q];exact b.block _ i
 ·rw[Below.heap_setCell _ _ _ _ y];exact b.block _ p
 ·have:=b.size;simpa[World.setCell]using this
def Wl:∀l:List (Bs×Bs),(∀x∈l,x.1.length<=100000∧x.2.length<=100000)->Tr.weighL l<=4+200036*l.length
 |[],_=>by simp[Tr.weighL]
 |x::l,h=>by
  have u:=h x Qj;have:=Wl l λy o=>h y (Qh _ o)
  rw[iH];simp only[Tr.costL,Qk];omega
def aRu(w:World)(v:Value)(t:Tr)(hT:DR w.heap.size w t v)(hc:t.cnt<=400000)(s:∀x∈t.lst,x.1.length<=100000∧x.2.length<=100000):
  Calls QC 35 #[.agg #[v]] w λe m=>e= .returned (.int .i64 ((Tr.weighL t.lst:Nat):Int))∧Below w.heap.size w m:=by
 refine(callsIn_wide (n:=3)).1 ?_;refine callsIn_of_wp_marks func35 rfl trivial ?_ rfl;simp only[ntmps35,QZ,Qk,Qy,Qs,QP,QT,QU,Q_,QV,Qd,Qe]
 gi_wp2_with (refine⟨trivial,?_⟩;gi_at_call 21;refine(callsIn_wide.2 (rA _ v [])).mono ?_;rintro e m ⟨rfl,rfl⟩)
 have b:Below w.heap.size w ((((w.alloc (Obj.cells #[v] 36)).alloc (Obj.cells #[Value.int IntKind.i64 4] 3)).alloc (Obj.cells #[v] 36)).alloc (Obj.cells #[encStr []] 9)):=((((Below.refl _ w).alloc (Qf _) _).alloc U _).alloc Xb _).alloc Xb _;have hz:((((w.alloc (Obj.cells #[v] 36)).alloc (Obj.cells #[Value.int IntKind.i64 4] 3)).alloc (Obj.cells #[v] 36)).alloc (Obj.cells #[encStr []] 9)).heap.size=w.heap.size+4:=U
 have b1:Boxed ((((w.alloc (Obj.cells #[v] 36)).alloc (Obj.cells #[Value.int IntKind.i64 4] 3)).alloc (Obj.cells #[v] 36)).alloc (Obj.cells #[encStr []] 9)) (w.heap.size+1) 3 (.int .i64 4):=by
  have:=((Boxed.new (w.alloc (Obj.cells #[v] 36)) 3 (.int .i64 4)).alloc (Obj.cells #[v] 36)).alloc (Obj.cells #[encStr []] 9)
  rwa [World.size_alloc]at this
 have b2:Boxed ((((w.alloc (Obj.cells #[v] 36)).alloc (Obj.cells #[Value.int IntKind.i64 4] 3)).alloc (Obj.cells #[v] 36)).alloc (Obj.cells #[encStr []] 9)) (w.heap.size+1+1) 36 v:=by
  have:=(Boxed.new ((w.alloc (Obj.cells #[v] 36)).alloc (Obj.cells #[Value.int IntKind.i64 4] 3)) 36 v).alloc (Obj.cells #[encStr []] 9)
  rwa [World.size_alloc,World.size_alloc]at this
 have b3:Boxed ((((w.alloc (Obj.cells #[v] 36)).alloc (Obj.cells #[Value.int IntKind.i64 4] 3)).alloc (Obj.cells #[v] 36)).alloc (Obj.cells #[encStr []] 9)) (w.heap.size+1+1+1) 9 (encStr []):=by
  have:=Boxed.new (((w.alloc (Obj.cells #[v] 36)).alloc (Obj.cells #[Value.int IntKind.i64 4] 3)).alloc (Obj.cells #[v] 36)) 9 (encStr [])
  rwa [World.size_alloc,World.size_alloc,World.size_alloc]at this
 generalize ((((w.alloc (Obj.cells #[v] 36)).alloc (Obj.cells #[Value.int IntKind.i64 4] 3)).alloc (Obj.cells #[v] 36)).alloc (Obj.cells #[encStr []] 9))=W0 at b hz b1 b2 b3 ⊢;have ja:(Br t []).length<=400000:=by rw[Fu,Tr.cnt_lst];exact hc
 refine wpIn_rangeFunc_ownF rfl V (gf:=48) (lb:=#[.pointer (some ⟨w.heap.size+1+1,0,none⟩),.pointer (some ⟨w.heap.size+1+1+1,0,none⟩)]) rfl trivial (enters_of func48 Z rfl)
  (Lf 2 V (w.heap.size+1+1) (w.heap.size+1+1+1) w.heap.size t [] v hc W0 b2 b3 (hT.below b) O) gO.trans (pI O O O) (Below.refl _ _) (λ_=>rfl)
  (λ(pre:List (Ob t [])) W=>Boxed W (w.heap.size+1) 3 (.int .i64 ((Tr.weighL (pre.map (·.1)):Nat):Int))∧Below w.heap.size w W∧w.heap.size+4<=W.heap.size)
  (λ_ _ _=>False)
  (OwnFrom.and (Own.from (mA _ _ _) _) (OwnFrom.and (ownFrom_below (Qf _) O) (Own.from (ME _) _)))
  (λ_ _ _ _ _ i _ _=>i)
  ⟨b1,b,O⟩
  (λx=>{tmps:=#[Value.agg #[v],Value.pointer (some {block:=w.heap.size,off:=0}),Value.int IntKind.i64 0,Value.pointer (some {block:=w.heap.size+1,off:=0}),encStr x.1.1,encStr x.1.2,Value.agg #[v],Value.func (Fn.func 48) #[] #[Value.pointer (some {block:=w.heap.size+1+1,off:=0}),Value.pointer (some {block:=w.heap.size+1+1+1,off:=0})],encStr x.1.1,encStr x.1.2,undef,undef,undef,undef,undef,undef,undef],defers:=[]}) ?assign ?body ?done ?stop
 case assign=>
  intro l x W K hK
  gi_wp2
  exact hK
 case body=>
  rintro l pre ⟨x,q⟩ W ⟨o,hB,ab⟩ u;have sa:=Wl (pre.map (·.1)) (λy hy=>by
   obtain⟨z,_,rfl⟩:=Ql.1 hy;exact s _ (Fu t▸z.2))
  have f:Tr.weighL ((pre++[(⟨x,q⟩:Ob t [])]).map (·.1))=Tr.weighL (pre.map (·.1))+(36+x.1.length+min x.2.length 1048576):=by rw[Za];exact iG x _
  have ka:=o.cell;have j:=o.frozen;rw[Fu]at q;have k:=s x q;have g:=λwx=>aU9 wx x.1 x.2.length O O
  have p:1<=3-1-1:=V
  have xa:Tryz.prog.follows .mixedOrders=true:=Z
  gi_wp2
  gi_region_with_o (refine⟨trivial,?_⟩;gi_at_call 79;refine(CallsIn.inRound l (callsIn_wide.2 (g _))).mono ?_;rintro e w3 ⟨rfl,r⟩;have ga:Boxed w3 (w.heap.size+1) 3 _:=(r.block _ o.lt).trans o;have a:=ga.cell;have d:=ga.frozen)
  all_goals
   obtain⟨g1,g2,g3,g4,g5⟩:=aFU (Bt:=w.heap.size+1+1) (Bq:=w.heap.size+1+1+1) (Value.int IntKind.i64 (IntKind.i64.wrap (((Tr.weighL (Z7 (λx=>x.val) pre):Nat):Int)+(36+(x.fst.length:Int)+((min x.snd.length 1048576:Nat):Int))))) hB o ⟨r.os,r.tape,r.output,r.size,r.block⟩ O O O O O O;refine⟨g1,g2,?_,g4,O⟩;have e:IntKind.i64.wrap (((Tr.weighL (Z7 (λx=>x.val) pre):Nat):Int)+(36+(x.fst.length:Int)+((min x.snd.length 1048576:Nat):Int)))=((Tr.weighL ((pre++[(⟨x,by rw[Fu];exact q⟩:Ob t [])]).map (·.1)):Nat):Int):=by
    rw[Qq]at sa;rw[f,Hy O O];omega
   rw[e]at g3 ⊢;exact g3
 case done=>
  rintro D ys W hD cb ⟨o,hB,ab⟩ hK;have ka:=o.cell
  gi_wp2
  refine⟨U,.inl ⟨_,_,rfl,run_takeDeferred hK,?_⟩⟩;exact⟨_,results_tmp rfl _ _ _,by rw[Fu];rfl,hB.trans (belowK_b (w:=w) (Qf _) W D _ _ O hK rfl rfl)⟩
 case stop=>
  rintro D c pre W _ _ h _;exact h.elim
attribute [local go_sem] Oper.semAt_some
open Go.Shelf Go.Sort
def aNd{n:Nat}{s:World}{t:Tr}{v:Value}(h:DR n s t v)(g:n<=s.heap.size)(q:Bs):Calls QC 27 #[.agg #[v],encStr q] s λe m=>e= .returned (.tuple #[encStr ((t.get q).getD []),.bool (t.get q).isSome])∧Below s.heap.size s m:=by
 have h1:=h.one;obtain⟨G,y,i⟩:=h;refine(Em (vs:=[.agg #[v],encStr q]) (G:=G) kE (Sh t q) Xi Xi rfl (λj d u p z=>?_) (λb o=>i b O)).mono ?_
 ·match j,p,z with
  |0,p,z=>cases p;cases z;exact R2 y h1
  |1,p,z=>cases p;cases z;exact .str _
 ·rintro e m ⟨u,x,rfl,o,r⟩;obtain⟨us,rfl,f,z⟩:=r.tup_inv
  match us,f with
  |[u0,u1],_=>exact⟨by rw[(z 0 _ u0 rfl rfl).str_inv,(z 1 _ u1 rfl rfl).bool_inv],o⟩
def aDV(w:World)(y a b f:Obj):((((w.alloc y).alloc a).alloc b).alloc f).heap.size=w.heap.size+4∧((((w.alloc y).alloc a).alloc b).alloc f).heap[w.heap.size]?=some y∧((((w.alloc y).alloc a).alloc b).alloc f).heap[w.heap.size+1]?=some a∧((((w.alloc y).alloc a).alloc b).alloc f).heap[w.heap.size+1+1]?=some b∧((((w.alloc y).alloc a).alloc b).alloc f).heap[w.heap.size+1+1+1]?=some f:=by
 have u:∀(x:World)(o:Obj)(k:Nat),k<x.heap.size->(x.alloc o).heap[k]?=x.heap[k]?:=λx o k h=>Below.heap_alloc _ _ _ h
 have i:∀(x:World)(o:Obj),(x.alloc o).heap.size=x.heap.size+1:=λx o=>World.size_alloc x o
 have g:∀(x:World)(o:Obj),(x.alloc o).heap[x.heap.size]?=some o:=λx o=>World.alloc_heap_new x o
 refine⟨by simp only[i],?_,?_,?_,?_⟩
 ·rw[u _ _ _ Xs,u _ _ _ Xs,u _ _ _ Xs,g]
 ·rw[u _ _ _ Xs,u _ _ _ Xs,←i w y,g]
 ·rw[u _ _ _ Xs,←i w y,←i _ a,g]
 ·rw[←i w y,←i _ a,←i _ b,g]
def oO{w:World}{B t e j n:Nat}{v:Value}{xs:List Value}(h:w.ownsRow B e j v n xs)(o:t<=B):w.ownsRow t e j v n xs:=by
 refine⟨h.1,?_⟩;rcases h.2 with h|⟨g,cap,cur,f,u,y⟩
 ·exact .inl h
 ·exact .inr ⟨g,cap,cur,f,Qc o u,y⟩
abbrev HB(s:Option Addr×Nat×Nat):Value:= .slice s.1 s.2.1 s.2.2
def mE(w:World)(y a b f:Obj):Below w.heap.size w ((((w.alloc y).alloc a).alloc b).alloc f):=((((Below.refl _ w).alloc (Qf _) _).alloc U _).alloc Xb _).alloc Xb _
def xL{W:World}{B:Nat}{T:TypeId}{a b c d e:Value}(h:W.heap[B]?=some (.cells #[a,b,c,d,e] T (0,0))):
  W.cell? ⟨B,0,none⟩=some a∧W.cell? ⟨B,1,none⟩=some b∧W.cell? ⟨B,2,none⟩=some c∧W.cell? ⟨B,3,none⟩=some d∧W.cell? ⟨B,4,none⟩=some e:=by
 simp[World.cell?,h]
def SB{W:World}{B:Nat}{T:TypeId}{cs:Array Value}(h:W.heap[B]?=some (.cells cs T (0,0)))(j:Nat):W.frozen? ⟨B,j,none⟩=false:=by
 simp[World.frozen?,h]
def S4{w:World}{b:Nat}{z0 z a o q:Value}(f c v j x:Value){T:TypeId}(h:w.heap[b]?=some (.cells #[z0,z,a,o,q] T (0,0))):
  (((((w.setCell ⟨b,0,none⟩ f).setCell ⟨b,1,none⟩ c).setCell ⟨b,2,none⟩ v).setCell ⟨b,3,none⟩ j).setCell ⟨b,4,none⟩ x).heap[b]?=some (.cells #[f,c,v,j,x] T (0,0))∧
  (((((w.setCell ⟨b,0,none⟩ f).setCell ⟨b,1,none⟩ c).setCell ⟨b,2,none⟩ v).setCell ⟨b,3,none⟩ j).setCell ⟨b,4,none⟩ x).heap.size=w.heap.size∧
  ∀k,k≠b->(((((w.setCell ⟨b,0,none⟩ f).setCell ⟨b,1,none⟩ c).setCell ⟨b,2,none⟩ v).setCell ⟨b,3,none⟩ j).setCell ⟨b,4,none⟩ x).heap[k]?=w.heap[k]?:=by
 refine⟨?_,by simp[World.setCell],λk s=>?_⟩
 ·have u:=heap_setCell_same w b 0 _ _ f h;have y:=heap_setCell_same _ b 1 _ _ c u;have i:=heap_setCell_same _ b 2 _ _ v y;have p:=heap_setCell_same _ b 3 _ _ j i;have m:=heap_setCell_same _ b 4 _ _ x p;simpa using m
 ·rw[Below.heap_setCell _ _ _ _ s,Below.heap_setCell _ _ _ _ s,Below.heap_setCell _ _ _ _ s,Below.heap_setCell _ _ _ _ s,Below.heap_setCell _ _ _ _ s]
def aN0(w:World)(k0 k1 k2 k3 k4:Value)(q:Bs)(x2 x3 x4 x5 x6 x7 x8:Value)(v:Value)(tx:Bs)(th:Bool)(QK:World->World->Value->Prop)
  (x:∀s,Below w.heap.size w s->Calls QC 27 #[.agg #[v],encStr q] s λe m=>e= .returned (.tuple #[encStr tx,.bool th])∧Below s.heap.size s m)
  (f:∀s,Below w.heap.size w s->w.heap.size+4<=s.heap.size->Calls QC 155 #[.agg #[k0,k1,k2,k3,k4],encStr q,encStr tx,.bool th] s λe m=>∃u0 u1 u2 u3 u4,e= .returned (.agg #[HB u0,HB u1,HB u2,HB u3,HB u4])∧Below s.heap.size s m∧QK s m (.agg #[HB u0,HB u1,HB u2,HB u3,HB u4])):
  Calls QC 88 #[.agg #[k0,k1,k2,k3,k4],.agg #[encStr q,.bool false,x2,x3,x4,x5,x6,x7,x8],.agg #[v]] w λe m=>∃u s j B,e= .returned u∧Below w.heap.size w s∧Below s.heap.size s j∧QK s j u∧B=w.heap.size+3∧Below w.heap.size w m∧j.heap.size<=m.heap.size∧∀p:Addr,p.block≠B->m.cell? p=j.cell? p:=by
 go_enter func88,ntmps88
 go_wp2_with (first|(go_at_call 27;refine(x _ (mE _ _ _ _ _)).mono ?_;rintro e s ⟨rfl,t⟩;obtain⟨zz,y0,y1,y2,y3⟩:=aDV w (Obj.cells #[k0,k1,k2,k3,k4] 163) (Obj.cells #[encStr q,Value.bool false,x2,x3,x4,x5,x6,x7,x8] 100) (Obj.cells #[v] 36) (Obj.cells #[Value.slice none 0 0,Value.slice none 0 0,Value.slice none 0 0,Value.slice none 0 0,Value.slice none 0 0] 163);have z:=(mE w (Obj.cells #[k0,k1,k2,k3,k4] 163) (Obj.cells #[encStr q,Value.bool false,x2,x3,x4,x5,x6,x7,x8] 100) (Obj.cells #[v] 36) (Obj.cells #[Value.slice none 0 0,Value.slice none 0 0,Value.slice none 0 0,Value.slice none 0 0,Value.slice none 0 0] 163)).trans (t.mono O);have q0:=(t.block _ O).trans y0;have q1:=(t.block _ O).trans y1;have q3:=(t.block _ O).trans y3;obtain⟨d0,b,i,d3,d4⟩:=xL q0;have d5:s.cell? ⟨w.heap.size+1,0,none⟩=some (encStr q):=by simp[World.cell?,q1])|(go_at_call 155;refine(f _ z (by have:=t.size;omega)).mono ?_;rintro e j ⟨u0,u1,u2,u3,u4,rfl,r,g⟩;have q4:=(r.block _ (by have:=t.size;omega)).trans q3;obtain⟨c0,c1,n,k,c4⟩:=xL q4;have f0:=SB q4 0;have f1:=SB q4 1;have f2:=SB q4 2;have f3:=SB q4 3;have f4:=SB q4 4))
 obtain⟨p5,ps,pk⟩:=S4 (HB u0) (HB u1) (HB u2) (HB u3) (HB u4) q4;obtain⟨s0,s1,a,s3,s4⟩:=xL p5;have y:=t.size;have o:Below w.heap.size w j:=z.trans (r.mono z.size);refine bodyPost_ret (v:= .agg #[HB u0,HB u1,HB u2,HB u3,HB u4]) (by simp[results,results88,go_sem,s0,s1,a,s3,s4]) rfl ⟨_,s,j,w.heap.size+1+1+1,rfl,z,r,g,rfl,?_,Zq ps.symm,λp c=>by simp only[World.cell?,pk _ c]⟩;exact((((o.setCell Xb _).setCell Xb _).setCell Xb _).setCell Xb _).setCell Xb _
def aBj{n N Bt Bq B:Nat}{w W s:World}{v v':Value}{k m:Nat}{xs ys:List Value}{c:Obj}(hB:Below n w W)(o:Boxed W B 23 v)(r:W.ownsRow N 9 1 v k xs)(z:N<=W.heap.size)(d:n<=N)(p:n<=B)(q:Bt≠B)(y:Bq≠B)(i:Bt<N)(h4:Bq<N)
  (ea:s.ownsRow N 9 1 v' m ys) (f:(W.alloc c).grownBy s v.ownBlock):
  KeepsOthers W (s.setCell ⟨B,0,none⟩ v')∧gO n Bt Bq W (s.setCell ⟨B,0,none⟩ v')∧Boxed (s.setCell ⟨B,0,none⟩ v') B 23 v'∧(s.setCell ⟨B,0,none⟩ v').ownsRow N 9 1 v' m ys∧Below n w (s.setCell ⟨B,0,none⟩ v')∧N<=(s.setCell ⟨B,0,none⟩ v').heap.size∧Boxed s B 23 v:=by
 have x:∀g,v.ownBlock=some g->N<=g:=λg hg=>by
  rcases r.2 with ⟨rfl,_⟩|⟨g',cap,cur,rfl,h,_⟩
  ·cases hg
  ·cases hg;exact h
 have le:∀{u:Value} {W:World} {j:Nat} {zs:List Value},W.ownsRow N 9 1 u j zs->W.ownsRow n 9 1 u j zs:=λh=>oO h O
 obtain⟨g1,g2,g3,g4,g5⟩:=o.appended V (le r) O p (le ea) f;have a:∀b,b<N->b≠B->(s.setCell ⟨B,0,none⟩ v').heap[b]?=W.heap[b]?:=λb ua t=>by
  rw[Below.heap_setCell _ _ _ _ t];exact(f.block b (by rw[World.size_alloc];omega) (λe=>by have:=x b e.symm;omega)).trans (Below.heap_alloc _ _ _ O)
 have la:N<=(s.setCell ⟨B,0,none⟩ v').heap.size:=by
  have:=f.size;rw[World.size_alloc]at this;simp only[World.setCell,Array.size_modify];omega
 exact⟨g4,⟨g5,a Bt i q,a Bq h4 y⟩,g2,ea.kept (grownBy_setCell' s B v') (.inr (g1.not_row V ea).symm),hB.trans g5,la,g1⟩
def DR.more{n m:Nat}{w:World}{t:Tr}{v:Value}(h:DR n w t v)(j:n<=m):DR m w t v:=by
 obtain⟨G,u,y⟩:=h;exact⟨G,u,λb o=>y b O⟩
def nP(t:Tr)(q:Bs):(Br t q).length<=t.lst.length:=Qc ((List.takeWhile_prefix _).length_le) X7
def aNZ(w:World)(k0 k1 k2 k3 k4:Value)(q:Bs)(x2 x3 x4 x5 x6 x7 x8:Value)(v:Value)(t:Tr)(QK:World->World->Value->Prop)(hT:DR w.heap.size w t v)(hc:t.cnt<=400000)
  (f:∀(wx:World)(vs:Value),Below w.heap.size w wx->w.heap.size+4<=wx.heap.size->wx.ownsRow (w.heap.size+7) 9 1 vs ((Br t q).map (·.1)).length (((Br t q).map (·.1)).map encStr)->(vs= .slice none 0 0↔(Br t q).map (·.1)=[])->Calls QC 156 #[.agg #[k0,k1,k2,k3,k4],encStr q,vs] wx λe w'=>∃u0 u1 u2 u3 u4,e= .returned (.agg #[HB u0,HB u1,HB u2,HB u3,HB u4])∧Below wx.heap.size wx w'∧QK wx w' (.agg #[HB u0,HB u1,HB u2,HB u3,HB u4])):
  Calls QC 88 #[.agg #[k0,k1,k2,k3,k4],.agg #[encStr q,.bool true,x2,x3,x4,x5,x6,x7,x8],.agg #[v]] w λe w'=>∃u wx w1 B,e= .returned u∧Below w.heap.size w wx∧Below wx.heap.size wx w1∧QK wx w1 u∧B=w.heap.size+3∧Below w.heap.size w w'∧w1.heap.size<=w'.heap.size∧∀p:Addr,p.block≠B->w'.cell? p=w1.cell? p:=by
 obtain⟨i0,hi,hx⟩:=QE.1 kL;simp only[ZC]at hx;obtain⟨ha,xa,ra⟩:=hx;refine(callsIn_wide (n:=3)).1 ?_;refine callsIn_of_wp_marks func88 rfl trivial ?_ rfl;simp only[ntmps88,QZ,Qk,Qy,Qs,QP,QT,QU,Q_,QV,Qd,Qe]
 gi_wp2_with (refine⟨trivial,?_⟩;gi_at_call 21;refine(callsIn_wide.2 (rA _ v q)).mono ?_;rintro e w' ⟨rfl,rfl⟩)
 have d:=aDV w (Obj.cells #[k0,k1,k2,k3,k4] 163) (Obj.cells #[encStr q,Value.bool true,x2,x3,x4,x5,x6,x7,x8] 100) (Obj.cells #[v] 36) (Obj.cells #[Value.slice none 0 0,Value.slice none 0 0,Value.slice none 0 0,Value.slice none 0 0,Value.slice none 0 0] 163);have aa:=mE w (Obj.cells #[k0,k1,k2,k3,k4] 163) (Obj.cells #[encStr q,Value.bool true,x2,x3,x4,x5,x6,x7,x8] 100) (Obj.cells #[v] 36) (Obj.cells #[Value.slice none 0 0,Value.slice none 0 0,Value.slice none 0 0,Value.slice none 0 0,Value.slice none 0 0] 163);generalize ((((w.alloc (Obj.cells #[k0,k1,k2,k3,k4] 163)).alloc (Obj.cells #[encStr q,Value.bool true,x2,x3,x4,x5,x6,x7,x8] 100)).alloc (Obj.cells #[v] 36)).alloc (Obj.cells #[Value.slice none 0 0,Value.slice none 0 0,Value.slice none 0 0,Value.slice none 0 0,Value.slice none 0 0] 163))=w4 at d aa ⊢;obtain⟨zz,y0,y1,y2,y3⟩:=d;have ga:DR w4.heap.size w4 t v:=(hT.below aa).more O;have b:Below w4.heap.size w4 (((w4.alloc (Obj.cells #[Value.slice none 0 0] 23)).alloc (Obj.cells #[v] 36)).alloc (Obj.cells #[encStr q] 9)):=(((Below.refl _ w4).alloc (Qf _) _).alloc U _).alloc Xb _;have hz:(((w4.alloc (Obj.cells #[Value.slice none 0 0] 23)).alloc (Obj.cells #[v] 36)).alloc (Obj.cells #[encStr q] 9)).heap.size=w4.heap.size+3:=U
 have b1:Boxed (((w4.alloc (Obj.cells #[Value.slice none 0 0] 23)).alloc (Obj.cells #[v] 36)).alloc (Obj.cells #[encStr q] 9)) w4.heap.size 23 (.slice none 0 0):=((Boxed.new w4 23 (.slice none 0 0)).alloc (Obj.cells #[v] 36)).alloc (Obj.cells #[encStr q] 9);have b2:Boxed (((w4.alloc (Obj.cells #[Value.slice none 0 0] 23)).alloc (Obj.cells #[v] 36)).alloc (Obj.cells #[encStr q] 9)) (w4.heap.size+1) 36 v:=by
  have:=(Boxed.new (w4.alloc (Obj.cells #[Value.slice none 0 0] 23)) 36 v).alloc (Obj.cells #[encStr q] 9)
  rwa [World.size_alloc]at this
 have b3:Boxed (((w4.alloc (Obj.cells #[Value.slice none 0 0] 23)).alloc (Obj.cells #[v] 36)).alloc (Obj.cells #[encStr q] 9)) (w4.heap.size+1+1) 9 (encStr q):=by
  have:=Boxed.new ((w4.alloc (Obj.cells #[Value.slice none 0 0] 23)).alloc (Obj.cells #[v] 36)) 9 (encStr q)
  rwa [World.size_alloc,World.size_alloc]at this
 generalize (((w4.alloc (Obj.cells #[Value.slice none 0 0] 23)).alloc (Obj.cells #[v] 36)).alloc (Obj.cells #[encStr q] 9))=W0 at b hz b1 b2 b3 ⊢;have en:w.heap.size+1+1+1+1=w4.heap.size:=O
 rw[en];have ja:(Br t q).length<=400000:=Qc (nP t q) (by rw[Tr.cnt_lst];exact hc);refine wpIn_rangeFunc_ownF rfl V (gf:=48) (lb:=#[.pointer (some ⟨w4.heap.size+1,0,none⟩),.pointer (some ⟨w4.heap.size+1+1,0,none⟩)]) rfl trivial (enters_of func48 Z rfl)
  (Lf 2 V (w4.heap.size+1) (w4.heap.size+1+1) w4.heap.size t q v hc W0 b2 b3 (ga.below b) O) gO.trans (pI O O O) (Below.refl _ _) (λ_=>rfl)
  (λ(pre:List (Ob t q)) W=>(∃u,Boxed W w4.heap.size 23 u∧W.ownsRow (w4.heap.size+3) 9 1 u pre.length ((pre.map (·.1.1)).map encStr)∧(u= .slice none 0 0↔pre=[]))∧Below w4.heap.size w4 W∧w4.heap.size+3<=W.heap.size)
  (λ_ _ _=>False)
  (OwnFrom.and (Own.from (holdsRow_own (w4.heap.size+3) w4.heap.size 23 9 1 (λ(pre:List (Ob t q))=>pre.length) (λ(pre:List (Ob t q))=>(pre.map (·.1.1)).map encStr) (λ(pre:List (Ob t q)) u=>u= .slice none 0 0↔pre=[])) _) (OwnFrom.and (ownFrom_below (Qf _) O) (Own.from (ME _) _)))
  (λ_ _ _ _ _ hs _ _=>hs)
  ⟨⟨_,b1,World.ownsRow_nil _ _ _ _,U⟩,b,O⟩
  (λx=>{tmps:=Zr (Value.agg #[k0,k1,k2,k3,k4]::Value.agg #[encStr q,Value.bool true,x2,x3,x4,x5,x6,x7,x8]::Value.agg #[v]::Value.pointer (some {block:=w.heap.size,off:=0})::Value.pointer (some {block:=w.heap.size+1,off:=0})::Value.pointer (some {block:=w.heap.size+1+1,off:=0})::Value.pointer (some {block:=w.heap.size+1+1+1,off:=0})::undef::undef::Value.pointer (some {block:=w4.heap.size,off:=0})::encStr x.1.1::Value.pointer (some {block:=w.heap.size+1,off:=1})::Value.bool true::Value.bool false::undef::undef::undef::undef::undef::undef::undef::undef::undef::undef::undef::undef::undef::Value.agg #[v]::Value.pointer (some {block:=w.heap.size+1,off:=0})::encStr q::Value.func (Fn.func 48) #[] #[Value.pointer (some {block:=w4.heap.size+1,off:=0}),Value.pointer (some {block:=w4.heap.size+1+1,off:=0})]::encStr x.1.1::encStr x.1.2::undef::undef::undef::undef::undef::undef::undef::undef::undef::[]),defers:=[]}) ?assign ?body ?done ?stop
 case assign=>
  intro l x W K hK;clear zz en hz
  gi_wp2
  exact hK
 case body=>
  rintro l pre x W ⟨⟨u,hv,ba,na⟩,hB,ab⟩ da;have ka:=hv.cell;clear zz en hz
  gi_wp2_with (gi_at_builtin;refine wpListIn_append_own _ rfl _ _ 23 rfl (w4.heap.size+3) 9 i0 (.string ByteArray.empty) 1 16 underlying23 hi ha xa ra rfl V _ _ _ rfl (ba.alloc _) ⟨W.heap.size,0,none⟩ 1 1 [encStr x.1.1] rfl rfl (cell_one_new _ _ _) (λx hx=>by simp at hx;subst hx;rfl) Xp O Xb ?_;intro v' w1 ea ia i;obtain⟨g',ma,rfl⟩:=ownsRow_succ ea;obtain⟨h1,h2,h3,h4,h5,h6,h7⟩:=aBj (n:=w4.heap.size) (N:=w4.heap.size+3) (Bt:=w4.heap.size+1) (Bq:=w4.heap.size+1+1) (B:=w4.heap.size) hB hv ba ab O (Qf _) O O O O ea ia;have k:=h7.cell;have y:=h7.frozen)
  exact⟨h1,h2,⟨_,h3,by simpa using h4,U⟩,h5,h6⟩
 case done=>
  rintro D ys W hD cb ⟨⟨u,hv,ba,na⟩,hB,ab⟩ hK;have ka:=hv.cell;have q0:=(hB.block _ O).trans y0;have q1:=(hB.block _ O).trans y1;have q3:=(hB.block _ O).trans y3;obtain⟨d0,d1,d2,d3,d4⟩:=xL q0;have d5:W.cell? ⟨w.heap.size+1,0,none⟩=some (encStr q):=by simp[World.cell?,q1]
  have ZZ:Aside (w4.heap.size=w.heap.size+4∧W0.heap.size=w4.heap.size+3):=⟨zz,hz⟩;clear zz en hz;have j:ys.map (·.1.1)=(Br t q).map (·.1):=by have:=congrArg (Z7 (·.1)) cb;rwa [List.map_map]at this
  have a:ys=[]↔(Br t q).map (·.1)=[]:=by rw[←j,Zx]
  have m:ys.length=((Br t q).map (·.1)).length:=by rw[←j,Qq]
  rw[j,m]at ba;rw[a]at na;have z:Below w.heap.size w W:=aa.trans (hB.mono aa.size);have g:=oO ba (show w.heap.size+7<=w4.heap.size+3 by have:=ZZ.out;omega);clear j a m
  gi_wp2_with (refine⟨trivial,?_⟩;gi_at_call 156;refine(callsIn_wide.2 (f W u z (by have:=ZZ.out;omega) g na)).mono ?_;rintro e w1 ⟨u0,u1,u2,u3,u4,rfl,fa,hq⟩;have q4:=(fa.block _ (by have:=ZZ.out;omega)).trans q3;obtain⟨c0,c1,c2,c3,c4⟩:=xL q4;have f0:=SB q4 0;have f1:=SB q4 1;have f2:=SB q4 2;have f3:=SB q4 3;have f4:=SB q4 4)
  obtain⟨p5,ps,pk⟩:=S4 (HB u0) (HB u1) (HB u2) (HB u3) (HB u4) q4;have za:=(Qm.1 hK).1;obtain⟨zz,hz⟩:=ZZ.out;have pa:D≠w.heap.size+1+1+1:=O
  have ca:=(pk D pa).trans ((fa.block _ za).trans hK);have ta:=fa.size;have sa:Below w.heap.size w w1:=z.trans (fa.mono z.size);have r:=((((sa.setCell (p:=⟨w.heap.size+1+1+1,0,none⟩) Xb (HB u0)).setCell (p:=⟨w.heap.size+1+1+1,1,none⟩) Xb (HB u1)).setCell (p:=⟨w.heap.size+1+1+1,2,none⟩) Xb (HB u2)).setCell (p:=⟨w.heap.size+1+1+1,3,none⟩) Xb (HB u3)).setCell (p:=⟨w.heap.size+1+1+1,4,none⟩) Xb (HB u4);have s:∀o,((((((w1.setCell ⟨w.heap.size+1+1+1,0,none⟩ (HB u0)).setCell ⟨w.heap.size+1+1+1,1,none⟩ (HB u1)).setCell ⟨w.heap.size+1+1+1,2,none⟩ (HB u2)).setCell ⟨w.heap.size+1+1+1,3,none⟩ (HB u3)).setCell ⟨w.heap.size+1+1+1,4,none⟩ (HB u4)).putObj D o).heap[w.heap.size+1+1+1]?=_:=λo=>(World.putObj_heap_other pa.symm).trans p5
  refine⟨U,.inl ⟨_,_,rfl,run_takeDeferred ca,?_⟩⟩;obtain⟨s0,s1,s2,s3,s4⟩:=xL (s (.deferred none));refine⟨.agg #[HB u0,HB u1,HB u2,HB u3,HB u4],by simp[results,results88,go_sem,s0,s1,s2,s3,s4],_,W,w1,w.heap.size+1+1+1,rfl,z,fa,hq,rfl,r.trans (belowK_b (w:=w) (Qf _) _ D _ _ O ca rfl rfl),?_,λp hp=>?_⟩
  ·rw[World.putObj_size];exact Zq ps.symm
  ·rcases Nat.decEq p.block D with h|h
   ·simp only[World.cell?,World.putObj_heap_other h];rw[pk _ hp]
   ·simp only[World.cell?,h,World.putObj_heap_same (Qm.1 ca).1,(fa.block _ za).trans hK]
 case stop=>
  rintro D c pre W _ _ h _;exact h.elim
def Tj{P:Program}{f:FuncId}{F:List D->Option D}(n:(Ac F).ok P f){ds:List D}{r:D}(hF:F ds=some r)(t:ds.all D.calm=true)(ca:ds.map D.un=ds)(ta:r.calm=true){vs:List Value}{w:World}{G:Nat->Nat}
  (hl:vs.length=ds.length) (ea:∀(j:Nat) d v,ds[j]?=some d->vs[j]?=some v->Rep w (Gh.base G) d v) (y:∀b,w.heap.size<=b->G b=0):
  Calls P f vs.toArray w λe m=>∃v G',e= .returned v∧Below w.heap.size w m∧(∀b,m.heap.size<=b->G' b=0)∧(∀b,b<w.heap.size->G' b=G b)∧Rep m (Gh.base G') r v:=by
 have z:Hi P w.heap.size w (λ_ _=>none) w (Gh.base G):=
  ⟨Below.refl _ _,Qf _,y,λ_ _=>rfl,λi b h=>XX,λi a b h=>XX,λi o d h=>Xd,λi e h=>Xd,λi a e e' b x x' h=>Xd,λi s p h=>Xd,λi a s p c p' b x x' h=>Xd⟩
 refine(n.run (fr:=[0]) (ds:=ds) (r:=r) (u:=[]) z (λi _=>⟨λ_=>rfl,rfl,rfl⟩) hl ea ?_).mono ?_
 ·grind [Ac]
 ·rintro e m ⟨v,q,rfl,g⟩;refine⟨v,q.G,rfl,g.inv.below,g.inv.gz,λb k=>?_,g.rep.calm_to ta (λ_ _=>rfl) (λ_=>Qf _)⟩;rw[g.inv.old b k,g.ext.G0];rfl
def Ur{w:World}{g:Gh}{t:Tr}{u:Value}(h:Rep w g (.agg [Hj t]) u):∃v,u= .agg #[v]∧Rep w g (Hj t) v:=by
 cases h with
 |agg ds vs hl q y=>
  match vs,hl with
  |[v],_=>exact⟨v,rfl,y 0 _ v rfl rfl⟩
def Ra(t:Tr):List D:=[.agg [Hj t]]
def jS(x y)(h:Ra x=Ra y):x=y:=by
 simp only[Ra,QM,D.agg.injEq,and_true]at h;exact Fw h
structure TrS (t:Tr):Prop where
 cnt:t.cnt<=400000
 key:∀x∈t.lst,x.1.length<=100000∧x.2.length<=100000
def Uj:List D->Option D:=FX Ra TrS λt=> .int .i64 ((Tr.weighL t.lst:Nat):Int)
def Lc{t:Tr}(h:TrS t):Uj [.agg [Hj t]]=some (.int .i64 ((Tr.weighL t.lst:Nat):Int)):=B3 (mk:=Ra) jS h
def UX:Kq Uj 35:=by
 refine IJ ⟨_,func35,Z,Z⟩ λds r f vs w G hl k j=>⟨?_,?_⟩
 ·obtain⟨p,_,_,rfl⟩:=Dl f;rfl
 ·obtain⟨t,u,rfl,rfl⟩:=Dl f
  match vs,hl with
  |[v0],_=>
   obtain⟨v,rfl,x⟩:=Ur (k 0 _ v0 rfl rfl);refine(aRu w v t ⟨G,x,j⟩ u.cnt u.key).mono ?_;rintro e m ⟨rfl,o⟩;exact⟨_,G,rfl,o,λb h=>j b (Qc o.size h),λ_ _=>rfl,.int _ _⟩
def P8(p:Kn×Bs×Bool×List D×Tr):List D:=[.agg (HG p.1),.agg (.str p.2.1:: .bool p.2.2.1::p.2.2.2.1),.agg [Hj p.2.2.2.2]]
def jR(x y)(h:P8 x=P8 y):x=y:=by
 obtain⟨k,q,li,r,t⟩:=x;obtain⟨w,g,d,a,b⟩:=y;simp only[P8,QM,D.agg.injEq,D.str.injEq,D.bool.injEq,and_true]at h;obtain⟨u,⟨f,i,p⟩,m⟩:=h;rw[pH u,f,i,p,Fw m]
structure aV5 (p:Kn×Bs×Bool×List D×Tr):Prop where
 es:p.1.es.length<=1000
 ls:p.1.ls.length<=1000
 r:p.2.2.2.1.length=7
 t:TrS p.2.2.2.2
 und:((Br p.2.2.2.2 p.2.1)).length<=100000
def Ui:List D->Option D:=FX P8 aV5 λp=> .agg (HG (A3 p.1 p.2.1 p.2.2.1 (Fa p.2.2.2.2 p.2.1)))
def aFl{k:Kn}{q:Bs}{li:Bool}{r:List D}{t:Tr}(h:aV5 (k,q,li,r,t)):Ui [.agg (HG k),.agg (.str q:: .bool li::r),.agg [Hj t]]=some (.agg (HG (A3 k q li (Fa t q)))):=B3 (mk:=P8) (a:=(k,q,li,r,t)) jR h
def aBw(k:Kn):(D.agg (HG k)).calm=true:=rfl
def jZ{w:World}{g:Gh}{k:Kn}{u:Value}(h:Rep w g (.agg (HG k)) u):∃f c v j x,u= .agg #[HB f,HB c,HB v,HB j,HB x]:=by
 cases h with
 |agg ds vs hl q y=>
  match vs,hl with
  |[v0,v1,v2,v3,v4],_=>
   obtain⟨a,i,rfl,_⟩:=(y 0 _ v0 rfl rfl).len_slice;obtain⟨a1,c1,rfl,_⟩:=(y 1 _ v1 rfl rfl).len_slice;obtain⟨b,n,rfl,_⟩:=(y 2 _ v2 rfl rfl).len_slice;obtain⟨r,o,rfl,_⟩:=(y 3 _ v3 rfl rfl).len_slice;obtain⟨t,s,rfl,_⟩:=(y 4 _ v4 rfl rfl).len_slice;exact⟨(a,_,i),(a1,_,c1),(b,_,n),(r,_,o),(t,_,s),rfl⟩
def aOE{w:World}{g:Gh}{q:Bs}{li:Bool}{r:List D}{u:Value}(h:Rep w g (.agg (.str q:: .bool li::r)) u)(j:r.length=7):∃z e p i s k c,u= .agg #[encStr q,.bool li,z,e,p,i,s,k,c]:=by
 cases h with
 |agg ds vs hl t y=>
  match r,j,vs,hl,y with
  |[r2,r3,r4,r5,r6,r7,r8],_,[v0,v1,v2,v3,v4,v5,v6,v7,v8],_,y=>
   have o:=(y 0 _ v0 rfl rfl).str_inv;have n:=(y 1 _ v1 rfl rfl).bool_inv;subst o n;exact⟨_,_,_,_,_,_,_,rfl⟩
def aQ2(w:World)(G:Nat->Nat)(k:Kn)(j:World)(u:Value):Prop:=∃m:Nat->Nat,(∀b,j.heap.size<=b->m b=0)∧(∀b,b<w.heap.size->m b=G b)∧m (w.heap.size+3)=0∧Rep j (Gh.base m) (.agg (HG k)) u
def pF{w:World}{G:Nat->Nat}{k:Kn}{e:Ending}{m:World}(h:∃u s j B,e= .returned u∧Below w.heap.size w s∧Below s.heap.size s j∧aQ2 w G k j u∧B=w.heap.size+3∧Below w.heap.size w m∧j.heap.size<=m.heap.size∧∀p:Addr,p.block≠B->m.cell? p=j.cell? p):
  ∃v G',e= .returned v∧Below w.heap.size w m∧(∀b,m.heap.size<=b->G' b=0)∧(∀b,b<w.heap.size->G' b=G b)∧Rep m (Gh.base G') (.agg (HG k)) v:=by
 obtain⟨u,s,j,B,rfl,t,r,⟨q,z,o,i,x⟩,rfl,f,g,n⟩:=h;refine⟨u,q,rfl,f,λb h=>z b O,o,x.calm_to (aBw k) (λp c=>n p λe=>?_) (λ_=>Qf _)⟩;rw[e]at c;simp only[Gh.base,i]at c;omega
def aHp(k:Kn)(q:Bs)(t:Tr):A3 k q false (Fa t q)={k with es:=k.es++[(q,(t.get q).getD [],(t.get q).isSome)]}:=by
 simp[A3,Fa]
def aHn(k:Kn)(q:Bs)(t:Tr):A3 k q true (Fa t q)={k with ls:=k.ls++[(q,(Br t q).isEmpty,(Br t q).map (·.1))]}:=by
 simp[A3,Fa]
def aOC:Kq Ui 88:=by
 refine IJ ⟨_,func88,Z,Z⟩ λds r hF vs w G hl ea y=>⟨?_,?_⟩
 ·obtain⟨p,_,_,rfl⟩:=Dl hF;rfl
 ·obtain⟨⟨k,q,li,rr,t⟩,⟨c,ja,i,ht,ca⟩,rfl,rfl⟩:=Dl hF;simp only at c ja i ht ca
  match vs,hl with
  |[v0,v1,v2],_=>
   have sa:=ea 0 _ v0 rfl rfl;obtain⟨u0,u1,u2,u3,u4,rfl⟩:=jZ sa;obtain⟨x2,x3,x4,x5,x6,x7,x8,rfl⟩:=aOE (ea 1 _ v1 rfl rfl) i;obtain⟨v,rfl,x⟩:=Ur (ea 2 _ v2 rfl rfl);have hT:DR w.heap.size w t v:=⟨G,x,y⟩;cases li with
   |false=>
    refine(aN0 w (HB u0) (HB u1) (HB u2) (HB u3) (HB u4) q x2 x3 x4 x5 x6 x7 x8 v ((t.get q).getD []) (t.get q).isSome (λ_=>aQ2 w G (A3 k q false (Fa t q))) (λwx hb=>aNd (hT.below hb) hb.size q) (λwx hb ka=>?_)).mono λe w' h=>pF h
    refine(Tj (vs:=[.agg #[HB u0,HB u1,HB u2,HB u3,HB u4],encStr q,encStr ((t.get q).getD []),.bool (t.get q).isSome]) (G:=G) aW6 (aQ1 k q ((t.get q).getD []) (t.get q).isSome c) rfl rfl rfl rfl (λj d u s n=>?_) (λb h=>y b (Qc hb.size h))).mono ?_
    ·match j,s,n with
     |0,s,n=>cases s;cases n;exact Gc sa rfl y hb (λ_ _=>Qf _)
     |1,s,n=>cases s;cases n;exact .str _
     |2,s,n=>cases s;cases n;exact .str _
     |3,s,n=>cases s;cases n;exact .bool _
    ·rintro e w1 ⟨u,G1,rfl,o,hz,ho,hR⟩;obtain⟨y0,y1,y2,y3,y4,rfl⟩:=jZ hR;refine⟨y0,y1,y2,y3,y4,rfl,o,G1,hz,λb h=>ho b (ZI h hb.size),?_,by rw[aHp];exact hR⟩;rw[ho _ O,y _ O]
   |true=>
    refine(aNZ w (HB u0) (HB u1) (HB u2) (HB u3) (HB u4) q x2 x3 x4 x5 x6 x7 x8 v t (λ_=>aQ2 w G (A3 k q true (Fa t q))) hT ht.cnt (λwx vs hb ka ra na=>?_)).mono λe w' h=>pF h
    have z:∃Gx:Nat->Nat,(∀b,wx.heap.size<=b->Gx b=0)∧(∀b,b<w.heap.size->Gx b=G b)∧Gx (w.heap.size+3)=0∧Rep wx (Gh.base Gx) (.slice (Br t q).isEmpty [] (strsD ((Br t q).map (·.1)))) vs:=by
     rcases ra.2 with ⟨rfl,_⟩|⟨g,cap,cur,rfl,m,a,f⟩
     ·have e:=na.1 rfl;have e2:Br t q=[]:=Zx.1 e;rw[e2];exact⟨G,λb h=>y b (Qc hb.size h),λ_ _=>rfl,y _ O,.nils _⟩
     ·have ga:Br t q≠[]:=λe=>by
       have:=na.2 (by rw[e];rfl);cases this
      have qa:=(Qm.1 a).1;have e3:(Br t q).isEmpty=false:=by cases h:Br t q with|nil=>exact absurd h ga|cons=>rfl
      refine⟨λb=>if b=g then((Br t q).map (·.1)).length else G b,λb h=>?_,λb h=>if_neg O,?_,?_⟩
      ·show(if b=g then _ else _)=0;rw[if_neg O];exact y b (Qc hb.size h)
      ·show(if w.heap.size+3=g then _ else _)=0;rw[if_neg O];exact y _ O
      ·rw[e3];exact MD ra (by simp[Gh.base])
    obtain⟨Gx,gz,go,g3,l⟩:=z;refine(Tj (vs:=[.agg #[HB u0,HB u1,HB u2,HB u3,HB u4],encStr q,vs]) (G:=Gx) aW5 (aQ0 k q (Br t q).isEmpty ((Br t q).map (·.1)) ja (by rw[Qq];exact ca) (λh=>by rw[List.isEmpty_iff.1 h];rfl)) rfl rfl rfl rfl (λj d u s n=>?_) gz).mono ?_
    ·match j,s,n with
     |0,s,n=>cases s;cases n;exact Gc sa rfl y hb (λb h=>Zq (go b h).symm)
     |1,s,n=>cases s;cases n;exact .str _
     |2,s,n=>cases s;cases n;exact l
    ·rintro e w1 ⟨u,G1,rfl,o,hz,ho,hR⟩;obtain⟨y0,y1,y2,y3,y4,rfl⟩:=jZ hR;exact⟨y0,y1,y2,y3,y4,rfl,o,G1,hz,λb h=>(ho b (ZI h hb.size)).trans (go b h),(ho _ O).trans g3,by rw[aHn];exact hR⟩
attribute [local go_sem] Oper.semAt_some
open Go.Shelf Go.Sort
def qZ{n:Nat}{s:World}{t:Tr}{v:Value}(h:DR n s t v)(g:n<=s.heap.size):Calls QC 102 #[.agg #[v]] s λe m=>e= .returned (.int .i64 (t.cnt:Nat))∧Below s.heap.size s m:=by
 have q:=h.one;obtain⟨G,y,i⟩:=h;refine(Em (vs:=[.agg #[v]]) (G:=G) aO6 (aEH t) Xi Xi rfl (λj d u p z=>?_) (λb o=>i b O)).mono ?_
 ·match j,p,z with
  |0,p,z=>cases p;cases z;exact R2 y q
 ·rintro e m ⟨u,x,rfl,o,r⟩;exact⟨Xy,o⟩
def aNb{n:Nat}{s:World}{t:Tr}{v:Value}(h:DR n s t v)(g:n<=s.heap.size):Calls QC 103 #[.agg #[v]] s λe m=>e= .returned (.int .i64 (t.wgt:Nat))∧Below s.heap.size s m:=by
 have q:=h.one;obtain⟨G,y,i⟩:=h;refine(Em (vs:=[.agg #[v]]) (G:=G) aO5 (aEG t) Xi Xi rfl (λj d u p z=>?_) (λb o=>i b O)).mono ?_
 ·match j,p,z with
  |0,p,z=>cases p;cases z;exact R2 y q
 ·rintro e m ⟨u,x,rfl,o,r⟩;exact⟨Xy,o⟩
def aDW(w:World)(y a b:Obj):(((w.alloc y).alloc a).alloc b).heap.size=w.heap.size+3∧(((w.alloc y).alloc a).alloc b).heap[w.heap.size]?=some y∧(((w.alloc y).alloc a).alloc b).heap[w.heap.size+1]?=some a∧(((w.alloc y).alloc a).alloc b).heap[w.heap.size+1+1]?=some b:=by
 have u:∀(x:World)(o:Obj)(k:Nat),k<x.heap.size->(x.alloc o).heap[k]?=x.heap[k]?:=λx o k h=>Below.heap_alloc _ _ _ h
 have i:∀(x:World)(o:Obj),(x.alloc o).heap.size=x.heap.size+1:=λx o=>World.size_alloc x o
 have g:∀(x:World)(o:Obj),(x.alloc o).heap[x.heap.size]?=some o:=λx o=>World.alloc_heap_new x o
 refine⟨by simp only[i],?_,?_,?_⟩
 ·rw[u _ _ _ Xs,u _ _ _ Xs,g]
 ·rw[u _ _ _ Xs,←i w y,g]
 ·rw[←i w y,←i _ a,g]
def aDP(w:World)(y a b:Obj):Below w.heap.size w (((w.alloc y).alloc a).alloc b):=(((Below.refl _ w).alloc (Qf _) _).alloc U _).alloc Xb _
structure HS (w:World) (a b:Tr) (va vb:Value) (wx:World):Prop where
 bl:Below w.heap.size w wx
 sz:w.heap.size+3<=wx.heap.size
 y0:wx.heap[w.heap.size]?=some (.cells #[va] 36 (0,0))
 y1:wx.heap[w.heap.size+1]?=some (.cells #[vb] 36 (0,0))
 y2:wx.heap[w.heap.size+1+1]?=some (.cells #[.bool false] 4 (0,0))
 ta:DR w.heap.size wx a va
 tb:DR w.heap.size wx b vb
def HS.le{w s:World}{a b:Tr}{i u:Value}(h:HS w a b i u s):w.heap.size<=s.heap.size:=by have:=h.sz;omega
def HS.later3{w s k:World}{a b:Tr}{i u:Value}(h:HS w a b i u s)(o:Below (w.heap.size+3) s k):HS w a b i u k:=by
 have:=h.sz;have j:=o.mono (show w.heap.size<=w.heap.size+3 by omega);exact⟨h.bl.trans j,Qc h.sz o.size,(o.block _ O).trans h.y0,(o.block _ O).trans h.y1,(o.block _ O).trans h.y2,h.ta.below j,h.tb.below j⟩
def aPE{α:Type}{w:World}{a b:Tr}{i u:Value}{B:Nat}(v:w.heap.size+3<=B):OwnFrom B (λ(_:List α) W=>HS w a b i u W):=λs A c row g q j=>
 g.later3 ((Below.refl _ A).grown q g.sz (λr e=>by have:=(j r e).1;omega))
def HS.later{w s k:World}{a b:Tr}{i u:Value}(h:HS w a b i u s)(o:Below s.heap.size s k):HS w a b i u k:=by
 have:=h.sz;have j:=o.mono h.le;exact⟨h.bl.trans j,Qc h.sz o.size,(o.block _ O).trans h.y0,(o.block _ O).trans h.y1,(o.block _ O).trans h.y2,h.ta.below j,h.tb.below j⟩
def HS.drew{w s:World}{a b:Tr}{i u:Value}(h:HS w a b i u s):HS w a b i u s.drew:=h.later ⟨rfl,rfl,rfl,Qf _,λ_ _=>rfl⟩
def HS.cells{w s:World}{a b:Tr}{i u:Value}(h:HS w a b i u s):s.cell? ⟨w.heap.size,0,none⟩=some i∧s.cell? ⟨w.heap.size+1,0,none⟩=some u∧s.cell? ⟨w.heap.size+1+1,0,none⟩=some (.bool false)∧s.frozen? ⟨w.heap.size+1+1,0,none⟩=false:=by
 simp[World.cell?,World.frozen?,h.y0,h.y1,h.y2]
def aN2(w:World)(i u:Value)(a b:Tr)(s:DR w.heap.size w a i)(k:DR w.heap.size w b u)(x:a.cnt≠b.cnt):
  Calls QC 47 #[.agg #[i],.agg #[u]] w λe m=>e= .returned (.bool false)∧Below w.heap.size w m:=by
 refine(callsIn_wide (n:=3)).1 ?_;refine callsIn_of_wp_marks func47 rfl trivial ?_ rfl;simp only[ntmps47,QZ,Qk,Qy,Qs,QP,QT,QU,Q_,QV,Qd,Qe]
 gi_wp2
 obtain⟨zz,y0,y1,y2⟩:=aDW w (Obj.cells #[i] 36) (Obj.cells #[u] 36) (Obj.cells #[.bool false] 4);have r:=aDP w (Obj.cells #[i] 36) (Obj.cells #[u] 36) (Obj.cells #[.bool false] 4);generalize (((w.alloc (Obj.cells #[i] 36)).alloc (Obj.cells #[u] 36)).alloc (Obj.cells #[.bool false] 4))=j at zz y0 y1 y2 r ⊢;have H0:HS w a b i u j:=⟨r,O,y0,y1,y2,s.below r,k.below r⟩;clear zz y0 y1 y2 r;obtain⟨k0,o,k2,g⟩:=H0.cells;have H:=H0.drew;have p:1<=3-1:=V
 have q:Tryz.prog.follows .mixedOrders=true:=Z
 have c:((a.cnt:Int)!=(b.cnt:Int))=true:=by simp only[bne_iff_ne,ne_eq];omega
 refine wpIn_mono (Q:=λf A W=>match f with| .normal=>A={tmps:=Zr (Value.agg #[i]::Value.agg #[u]::Value.pointer (some ⟨w.heap.size,0,none⟩)::Value.pointer (some ⟨w.heap.size+1,0,none⟩)::Value.pointer (some ⟨w.heap.size+1+1,0,none⟩)::undef::undef::undef::undef::Value.agg #[i]::Value.int .i64 (a.cnt:Nat)::Value.agg #[u]::Value.int .i64 (b.cnt:Nat)::Value.bool true::Value.bool true::undef::undef::undef::undef::undef::Value.bool true::undef::undef::undef::undef::undef::undef::undef::undef::undef::undef::undef::undef::undef::undef::undef::undef::undef::[]),defers:=[]}∧HS w a b i u W|_=>False) ?_ ?_
 ·gi_region_with_o (refine⟨trivial,?_⟩;try (gi_at_call 102;(first|refine(callsIn_wide.2 (qZ (v:=i) (t:=a) H.ta H.le)).mono ?_ |refine(callsIn_wide.2 (qZ (v:=u) (t:=b) H.tb H.le)).mono ?_);rintro e wy ⟨rfl,y⟩;replace H:=H.later y;obtain⟨j0,j1,j2,j3⟩:=H.cells))
  all_goals exact⟨rfl,H⟩
 ·rintro f A W z;cases f with
  |normal=>
   obtain⟨rfl,HW⟩:=z;have H2:=HW.cells;clear k0 o k2 g c;obtain⟨k0,o,k2,g⟩:=H2
   gi_wp2
   exact⟨.bool false,by simp[results,results47,go_sem,heap_setCell_same _ _ 0 _ _ (Value.bool false) HW.y2,World.cell?],rfl,HW.bl.setCell Xb _⟩
  |_=>exact z.elim
def aN1(w:World)(va vb:Value)(t:Tr)(hA:DR w.heap.size w t va)(hB:DR w.heap.size w t vb)(i:Tr.Ord t.lst)(z:t.cnt<=400000):
  Calls QC 47 #[.agg #[va],.agg #[vb]] w λe m=>e= .returned (.bool true)∧Below w.heap.size w m:=by
 refine(callsIn_wide (n:=3)).1 ?_;refine callsIn_of_wp_marks func47 rfl trivial ?_ rfl;simp only[ntmps47,QZ,Qk,Qy,Qs,QP,QT,QU,Q_,QV,Qd,Qe]
 gi_wp2
 obtain⟨zz,y0,y1,y2⟩:=aDW w (Obj.cells #[va] 36) (Obj.cells #[vb] 36) (Obj.cells #[.bool false] 4);have r:=aDP w (Obj.cells #[va] 36) (Obj.cells #[vb] 36) (Obj.cells #[.bool false] 4);generalize (((w.alloc (Obj.cells #[va] 36)).alloc (Obj.cells #[vb] 36)).alloc (Obj.cells #[.bool false] 4))=w3 at zz y0 y1 y2 r ⊢;have H0:HS w t t va vb w3:=⟨r,O,y0,y1,y2,hA.below r,hB.below r⟩;clear zz y0 y1 y2 r;obtain⟨k0,k1,k2,k3⟩:=H0.cells;have H:=H0.drew;have s:1<=3-1:=V
 have xa:Tryz.prog.follows .mixedOrders=true:=Z
 refine wpIn_mono (Q:=λex A W=>match ex with| .normal=>A={tmps:=Zr (Value.agg #[va]::Value.agg #[vb]::Value.pointer (some ⟨w.heap.size,0,none⟩)::Value.pointer (some ⟨w.heap.size+1,0,none⟩)::Value.pointer (some ⟨w.heap.size+1+1,0,none⟩)::undef::undef::undef::undef::Value.agg #[va]::Value.int .i64 (t.cnt:Nat)::Value.agg #[vb]::Value.int .i64 (t.cnt:Nat)::Value.bool false::Value.bool false::Value.agg #[va]::Value.int .i64 (t.wgt:Nat)::Value.agg #[vb]::Value.int .i64 (t.wgt:Nat)::Value.bool false::Value.bool false::undef::undef::undef::undef::undef::undef::undef::undef::undef::undef::undef::undef::undef::undef::undef::undef::undef::[]),defers:=[]}∧HS w t t va vb W|_=>False) ?_ ?_
 ·gi_region_with_o (refine⟨trivial,?_⟩;(first
   |(gi_at_call 102;(first|refine(callsIn_wide.2 (qZ (v:=va) (t:=t) H.ta H.le)).mono ?_ |refine(callsIn_wide.2 (qZ (v:=vb) (t:=t) H.tb H.le)).mono ?_);rintro e wy ⟨rfl,qa⟩;replace H:=H.later qa;obtain⟨j0,j1,j2,j3⟩:=H.cells)
   |(gi_at_call 103;(first|refine(callsIn_wide.2 (aNb (v:=va) (t:=t) H.ta H.le)).mono ?_ |refine(callsIn_wide.2 (aNb (v:=vb) (t:=t) H.tb H.le)).mono ?_);rintro e wy ⟨rfl,qa⟩;replace H:=H.later qa;obtain⟨j0,j1,j2,j3⟩:=H.cells)))
  all_goals exact⟨rfl,H⟩
 ·rintro ex A W hQ;cases ex with
  |normal=>
   obtain⟨rfl,HW⟩:=hQ;have H2:=HW.cells;clear k0 k1 k2 k3 H0 H;obtain⟨k0,k1,k2,k3⟩:=H2
   gi_wp2_with (refine⟨trivial,?_⟩;gi_at_call 21;refine(callsIn_wide.2 (rA _ va [])).mono ?_;rintro e m ⟨rfl,rfl⟩)
   have f:Below W.heap.size W ((W.alloc (Obj.cells #[va] 36)).alloc (Obj.cells #[encStr []] 9)):=((Below.refl _ W).alloc (Qf _) _).alloc U _;have H0:=HW.later f;have j:((W.alloc (Obj.cells #[va] 36)).alloc (Obj.cells #[encStr []] 9)).heap.size=W.heap.size+2:=U
   have b2:Boxed ((W.alloc (Obj.cells #[va] 36)).alloc (Obj.cells #[encStr []] 9)) W.heap.size 36 va:=(Boxed.new W 36 va).alloc (Obj.cells #[encStr []] 9);have b3:Boxed ((W.alloc (Obj.cells #[va] 36)).alloc (Obj.cells #[encStr []] 9)) (W.heap.size+1) 9 (encStr []):=by
    have:=Boxed.new (W.alloc (Obj.cells #[va] 36)) 9 (encStr [])
    rwa [World.size_alloc]at this
   have ab:=HW.sz;generalize ((W.alloc (Obj.cells #[va] 36)).alloc (Obj.cells #[encStr []] 9))=W0 at f H0 j b2 b3 ⊢;clear k0 k1 k2 k3;refine wpIn_rangeFunc_ownF rfl V (gf:=48) (lb:=#[.pointer (some ⟨W.heap.size,0,none⟩),.pointer (some ⟨W.heap.size+1,0,none⟩)]) rfl trivial (enters_of func48 Z rfl)
    (Lf 2 V W.heap.size (W.heap.size+1) w.heap.size t [] va z W0 b2 b3 H0.ta H0.le) gO.trans (pI O O O) (Below.refl _ _) (λ_=>rfl)
    (λ(pre:List (Ob t [])) Wx=>HS w t t va vb Wx∧W.heap.size+2<=Wx.heap.size)
    (λ_ _ _=>False)
    (OwnFrom.and (aPE O) (Own.from (ME _) _))
    (λ_ _ _ _ _ g _ _=>g)
    ⟨H0,O⟩
    (λx=>{tmps:=Zr (Value.agg #[va]::Value.agg #[vb]::Value.pointer (some ⟨w.heap.size,0,none⟩)::Value.pointer (some ⟨w.heap.size+1,0,none⟩)::Value.pointer (some ⟨w.heap.size+1+1,0,none⟩)::encStr x.1.1::encStr x.1.2::undef::undef::Value.agg #[va]::Value.int .i64 (t.cnt:Nat)::Value.agg #[vb]::Value.int .i64 (t.cnt:Nat)::Value.bool false::Value.bool false::Value.agg #[va]::Value.int .i64 (t.wgt:Nat)::Value.agg #[vb]::Value.int .i64 (t.wgt:Nat)::Value.bool false::Value.bool false::Value.agg #[va]::Value.func (Fn.func 48) #[] #[Value.pointer (some ⟨W.heap.size,0,none⟩),Value.pointer (some ⟨W.heap.size+1,0,none⟩)]::encStr x.1.1::encStr x.1.2::undef::undef::undef::undef::undef::undef::undef::undef::undef::undef::undef::undef::undef::[]),defers:=[]}) ?assign ?body ?done ?stop
   case assign=>
    intro l x Wx K hK;clear j
    gi_wp2
    exact hK
   case body=>
    rintro l pre ⟨x,q⟩ Wx ⟨HX,b⟩ u;clear j;obtain⟨k0,k1,k2,k3⟩:=HX.cells;rw[Fu]at q;have hg:t.get x.1=some x.2:=by rw[Tr.get_lst _ t i];exact Tr.getL_mem i q
    have a:=aNd HX.tb HX.le x.1;rw[hg]at a
    gi_wp2_with (refine⟨trivial,?_⟩;gi_at_call 27;refine(CallsIn.inRound l (callsIn_wide.2 a)).mono ?_;rintro e wy ⟨rfl,qa⟩)
    exact⟨KeepsOthers.of_grownBy (B7 qa (Qf _) none qa.size) (λ_ _ e=>Xv),⟨qa.mono HX.le,qa.block _ O,qa.block _ O⟩,HX.later qa,by have:=qa.size;omega⟩
   case done=>
    rintro D ys Wx hD cb ⟨HX,b⟩ hK;have Hz:Aside (W0.heap.size=W.heap.size+2):=j;clear j;obtain⟨k0,k1,k2,k3⟩:=HX.cells
    gi_wp2
    have j:=Hz.out;have pa:D≠w.heap.size+1+1:=O
    have k:=heap_setCell_same _ _ 0 _ _ (Value.bool true) HX.y2;have y:(Wx.setCell ⟨w.heap.size+1+1,0,none⟩ (Value.bool true)).heap[D]?=some (.deferred (some [])):=by rw[Below.heap_setCell _ _ _ _ pa];exact hK
    refine⟨U,.inl ⟨_,_,rfl,run_takeDeferred y,?_⟩⟩;have ua:=(World.putObj_heap_other (o:= .deferred none) (w:=Wx.setCell ⟨w.heap.size+1+1,0,none⟩ (Value.bool true)) pa.symm).trans k;exact⟨.bool true,by simp[results,results47,go_sem,ua,World.cell?],rfl,(HX.bl.setCell (p:=⟨w.heap.size+1+1,0,none⟩) Xb _).trans (belowK_b (w:=w) (Qf _) _ D _ _ O y rfl rfl)⟩
   case stop=>
    rintro D c pre W _ _ h _;exact h.elim
  |_=>exact hQ.elim
def NN(p:Tr×Tr):List D:=[.agg [Hj p.1],.agg [Hj p.2]]
def P9(x y)(h:NN x=NN y):x=y:=by
 obtain⟨a,b⟩:=x;obtain⟨c,d⟩:=y;simp only[NN,QM,D.agg.injEq,and_true]at h;rw[Fw h.1,Fw h.2]
def sJ:List D->Option D:=FX NN (λp=>(p.1=p.2∧Tr.Ord p.1.lst∧p.1.cnt<=400000)∨p.1.cnt≠p.2.cnt) λp=> .bool (decide (p.1.cnt=p.2.cnt))
def aJl{t:Tr}(g:Tr.Ord t.lst)(z:t.cnt<=400000):sJ [.agg [Hj t],.agg [Hj t]]=some (.bool true):=by
 have:=B3 (mk:=NN) (ok:=λp=>(p.1=p.2∧Tr.Ord p.1.lst∧p.1.cnt<=400000)∨p.1.cnt≠p.2.cnt) (res:=λp=> .bool (decide (p.1.cnt=p.2.cnt))) (a:=(t,t)) P9 (.inl ⟨rfl,g,z⟩);rw[decide_eq_true rfl]at this;exact this
def aJm{a b:Tr}(h:a.cnt≠b.cnt):sJ [.agg [Hj a],.agg [Hj b]]=some (.bool false):=by
 have:=B3 (mk:=NN) (ok:=λp=>(p.1=p.2∧Tr.Ord p.1.lst∧p.1.cnt<=400000)∨p.1.cnt≠p.2.cnt) (res:=λp=> .bool (decide (p.1.cnt=p.2.cnt))) (a:=(a,b)) P9 (.inr h);rw[decide_eq_false h]at this;exact this
def aOD:Kq sJ 47:=by
 refine IJ ⟨_,func47,Z,Z⟩ λds r f vs w G hl ea j=>⟨?_,?_⟩
 ·obtain⟨p,_,_,rfl⟩:=Dl f;rfl
 ·obtain⟨⟨a,b⟩,k,rfl,rfl⟩:=Dl f
  match vs,hl with
  |[v0,v1],_=>
   obtain⟨i,rfl,d⟩:=Ur (ea 0 _ v0 rfl rfl);obtain⟨u,rfl,c⟩:=Ur (ea 1 _ v1 rfl rfl);rcases k with ⟨e,g,z⟩|hne
   ·simp only at e g z;subst e;refine(aN1 w i u a ⟨G,d,j⟩ ⟨G,c,j⟩ g z).mono ?_;rintro e m ⟨rfl,o⟩;exact⟨_,G,rfl,o,λb h=>j b (Qc o.size h),λ_ _=>rfl,by simp only[decide_true];exact .bool _⟩
   ·refine(aN2 w i u a b ⟨G,d,j⟩ ⟨G,c,j⟩ hne).mono ?_;rintro e m ⟨rfl,o⟩;exact⟨_,G,rfl,o,λb h=>j b (Qc o.size h),λ_ _=>rfl,by simp only[decide_eq_false hne];exact .bool _⟩
def aVP:=Ar []
def aED:=RF aVP aCU [.t 2,.t 3] 26
def aO3:Kq aED 160:=Ap (Aj func160) Ad
def aEC(p:Bs)(c:p.length<=1000000):aED [.str p]=some (.tup [.str ((Tr.beyB p).getD []),.bool (Tr.beyB p).isSome]):=by
 refine Al (Qa rfl) ?_;unfold aCU;have o:IntKind.i64.wrap ((p.length:Int)-1)=(p.length:Int)-1:=Hy O O;simp only[Hb,↓C2,G7,simprocAttr,o];refine cK c p.length _ _ (Qf _) rfl rfl (λe r a y i=>?_) (λa r=>?_)
 ·rw[Q6]at a;rw[a];simp only[Hb,↓C2,G7,simprocAttr,y,i]
  all_goals exact Y6
 ·rw[Q6]at a;rw[a];simp only[Hb,↓C2,G7,simprocAttr]
  all_goals exact Y6
def Ub:=Ar [(157,Ac rY),(160,Ac aED),(159,Ac rW)]
def aEN:=RF Ub aC2 [.cell (some 1) 4] 37
def aO9:Kq aEN 90:=Ap (Aj func90) (Aa aBE (Aa aO3 (Aa aBC Ad)))
def aEM(t:Tr)(p:Bs)(h:Wg t)(c:p.length<=1000000):aEN [.agg [Hj t],.str p]=some (.agg [Hj (Tr.dropT p t)]):=by
 refine Al (Qa rfl) ?_;unfold aC2;have s:=Se t p h;have g:=aEC p c;have k:=Tr.cnt_split p t;have o:=Tr.wgt_split p t;obtain⟨u,y⟩:=h;unfold Tr.dropT;cases hb:Tr.beyB p with
 |none=>
  rw[hb]at g;simp only[Zo,Zf]at g;simp only[Hb,↓C2,G7,simprocAttr,Hm,Ae Ub 157,s,Ae Ub 160,g]
  all_goals exact Y6
 |some e=>
  rw[hb]at g;simp only[QI,Qp]at g;have w:=Se (Tr.split p t).2 e ⟨O,O⟩;have m:=Tr.cnt_split e (Tr.split p t).2;have v:=Tr.wgt_split e (Tr.split p t).2;have z:=gC (Tr.split p t).1 (Tr.split e (Tr.split p t).2).2 O O;simp only[Hb,↓C2,G7,simprocAttr,Hm,Ae Ub 157,s,Ae Ub 160,g,w,Ae Ub 159,z]
  all_goals exact Y6
def Uc:=Ar [(27,Ac gJ),(157,Ac rY),(158,Ac rX),(159,Ac rW)]
def aEP:=RF Uc aC3 [.cell (some 1) 4] 38
def aPa:Kq aEP 89:=Ap (Aj func89) (Aa kE (Aa aBE (Aa aBD (Aa aBC Ad))))
def aEO(t:Tr)(q:Bs)(h:Wg t)(g:Tr.Ord t.lst):aEP [.agg [Hj t],.str q]=some (.agg [Hj (Tr.delT q t)]):=by
 refine Al (Qa rfl) ?_;unfold aC3;have n:=Sh t q;have s:=Se t q h;have k:=Tr.cnt_split q t;have o:=Tr.wgt_split q t;obtain⟨u,f⟩:=h;unfold Tr.delT;cases hg:t.get q with
 |none=>
  rw[hg]at n;simp only[Zo,Zf]at n;simp only[Hb,↓C2,G7,simprocAttr,Hm,Ae Uc 27,n]
  all_goals exact Y6
 |some v=>
  rw[hg]at n;simp only[QI,Qp]at n;have ga:(Tr.split q t).2≠ .nil:=λe=>by
   have i:=(Tr.lst_split q t g).2;rw[e,Tr.get_lst q t g]at *;rw[Tr.fil_ge g (Tr.getL_some hg)]at i;cases i
  simp only;cases hz:(Tr.split q t).2 with
  |nil=>exact absurd hz ga
  |node a x y b=>
   rw[hz]at s k o;simp only[Tr.cnt,Tr.wgt]at k o;have j:=gD a x y b ⟨Xg,Xf⟩;have m:=Tr.cnt_first a x y b;have w:=Tr.wgt_first a x y b;have z:=gC (Tr.split q t).1 (Tr.first a x y b).2.2 O O;simp only[Hb,↓C2,G7,simprocAttr,Hm,Ae Uc 27,n,Ae Uc 157,s,Ae Uc 158,j,Ae Uc 159,z]
   all_goals exact Y6
def aAg{a b:List (Bs×Bs)}(h:a.Sublist b):Tr.sizeL a<=Tr.sizeL b:=by
 induction h with
 |slnil=>exact Qf _
 |cons x _ ih=>obtain⟨k,v⟩:=x;rw[Tr.size_cons];omega
 |cons_cons x _ ih=>obtain⟨k,v⟩:=x;rw[Tr.size_cons,Tr.size_cons];omega
def bU(x:Op1){t:Tr}(h:Tr.Ord t.lst):(DJ x t).cnt<=1+t.cnt∧(DJ x t).wgt<=4+x.2.1.length+x.2.2.length+t.wgt:=by
 have m:∀u:Tr,u.lst.Sublist t.lst->u.cnt<=t.cnt∧u.wgt<=t.wgt:=λu g=>by
  rw[←Tr.cnt_lst,←Tr.cnt_lst,Tr.wgt_lst,Tr.wgt_lst t];exact⟨g.length_le,aAg g⟩
 unfold DJ;split
 ·have:=Nf x.2.1 x.2.2 t;omega
 split
 ·have:=m (Tr.delT x.2.1 t) (by rw[Tr.lst_del _ t h];exact QN);omega
 split
 ·have:=m (Tr.dropT x.2.1 t) (by rw[Tr.lst_drop _ t h];exact Tr.drop_sub _ h);omega
 ·omega
def fX:=Ar [(83,Ac sA),(89,Ac aEP),(90,Ac aEN)]
def aE6:=RF fX aDg [.cell (some 1) 4] 37
def aPo:Kq aE6 39:=Ap (Aj func39) (Aa aBG (Aa aPa (Aa aO9 Ad)))
def cR{l:List Op1}{nl:Bool}{Q:Ex->St->Prop}(y:∀x∈l,x.2.1.length<=100∧x.2.2.length<=400){R:Tr}(hQ:∀r,r.m [0] 0=some (Hj R)->r.m [1] 0=some .nilptr->r.s 2= .ptr [0] 0->r.s 4= .ptr [1] 0->Q (.exit 0) r):
  ∀(f j:Nat)(t:Tr)(st:St) g,l.length=j+f->l.length<=100000->Tr.Ord t.lst->t.cnt+f<=700000->t.wgt+600*f<=700000000000->BK (l.drop j) t=R->2<=st.c->st.s 2= .ptr [0] 0->st.s 4= .ptr [1] 0->st.s 7= .slice nl [] (El l)->st.s 8= .int .i64 (l.length:Int)->st.s 9= .int .i64 (j:Int)->
   st.m [0] 0=some (Hj t)->st.m [1] 0=some .nilptr->Be fX [] M8 Q st g
 |0,j,t,st,g,hf,hl,ho,hc,hw,hR,h2c,h2,h4,h7,h8,h9,m0,m1=>by
  refine Af M8.eq_1 ?_;have d1:((j:Int)<l.length)=False:=eq_false O;rw[QO O]at hR;simp only[BK]at hR;subst hR;simp only[Hb,↓C2,G7,simprocAttr,h8,h9,d1];exact hQ _ m0 m1 h2 h4
 |f+1,j,t,st,g,hf,hl,ho,hc,hw,hR,h2c,h2,h4,h7,h8,h9,m0,m1=>by
  have ih:=cR (nl:=nl) y hQ f (j+1);have p:j<l.length:=O
  have w:(El l)[j]?=some (opD l[j]):=by unfold El;rw[QF,Qi p];rfl
  have pa:=y l[j] (QQ p);rw[Qo p]at hR;simp only[BK]at hR;have z:=bU l[j] ho;have d:=(DI l[j] ho).1;generalize l[j]=x at *;refine Af M8.eq_1 ?_;obtain⟨ma,ia,ea⟩:=st;simp only at h2 h4 h7 h8 h9 m0 m1 h2c;have d1:((j:Int)<l.length)=True:=eq_true O;have oa:=nJ (j:=j);have sa:IntKind.i64.wrap ((j:Int)+1)=((j+1:Nat):Int):=Hy O O;have z3:∀{m:Ha} {i:Id} {x0 x1 x2:D},Ag (m.put i 0 [x0,x1,x2]) i 0 3=some [x0,x1,x2]:=Az rfl;obtain⟨k,q,v⟩:=x;unfold opD at w;simp only at pa z d hR w;unfold DJ at z d hR;simp only at z d hR;have a:∀{m:Ha} {q o i:Nat} {x:List D},q<2->2<=i->m.put [i] 0 x [q] o=m [q] o:=λhq hi=>aA Xb
  have b:∀{i:Nat},2<=i->(([0]:Id)=[i])=False:=λhi=>Xb
  have e:∀{i:Nat},2<=i->(([1]:Id)=[i])=False:=λhi=>Xb
  have s1:∀{m:Ha} {x:D},Ag (m.put [0] 0 [x]) [0] 0 1=some [x]:=Az rfl;have s2:∀{m:Ha} {x:D},Ag (m.put [0] 0 [x]) [1] 0 1=Ag m [1] 0 1:=AG V;have h:∀{m:Ha} {x:List D},m.put [0] 0 x [1] 0=m [1] 0:=aA V;have u:Wg t:=⟨O,O⟩;by_cases c1:k=1
  ·subst c1;simp only[reduceIte]at z d hR;have i1:=Nt t q v O O;simp (disch:=first|assumption|omega)only[Hb,↓C2,G7,simprocAttr,Hm,h2,h4,h7,h8,h9,d1,oa,Qg,w,z3,a,m0,m1,Ae fX 83,i1,sa,b,e];refine ih _ _ _ O hl d O O hR Xa h2 h4 h7 h8 rfl rfl ?_;simp (disch:=omega)only[h,a,m1]
  rw[if_neg c1]at z d hR;have n1:(k=1)=False:=eq_false c1;by_cases n:k=2
  ·subst n;simp only[reduceIte]at z d hR;have i1:=aEO t q u ho;simp (disch:=first|assumption|omega)only[Hb,↓C2,G7,simprocAttr,Hm,h2,h4,h7,h8,h9,d1,oa,Qg,w,z3,a,m0,m1,Ae fX 89,i1,sa,b,e];refine ih _ _ _ O hl d O O hR Xa h2 h4 h7 h8 rfl rfl ?_;simp (disch:=omega)only[h,a,m1]
  rw[if_neg n]at z d hR;have n2:(k=2)=False:=eq_false n;by_cases c3:k=3
  ·subst c3;simp only[reduceIte]at z d hR;have i1:=aEM t q u O;simp (disch:=first|assumption|omega)only[Hb,↓C2,G7,simprocAttr,Hm,h2,h4,h7,h8,h9,d1,oa,Qg,w,z3,a,m0,m1,Ae fX 90,i1,sa,b,e];refine ih _ _ _ O hl d O O hR Xa h2 h4 h7 h8 rfl rfl ?_;simp (disch:=omega)only[h,a,m1]
  rw[if_neg c3]at z d hR;have n3:(k=3)=False:=eq_false c3;simp (disch:=first|assumption|omega)only[Hb,↓C2,G7,simprocAttr,Hm,h2,h4,h7,h8,h9,d1,oa,Qg,w,z3,a,m0,m1,n1,n2,n3,sa,b,e];refine ih _ _ _ O hl d O O hR Xa h2 h4 h7 h8 rfl ?_ ?_
  ·simp (disch:=omega)only[a,m0]
  ·simp (disch:=omega)only[a,m1]
def aE5(t:Tr)(nl:Bool)(l:List Op1)(hl:l.length<=100000)(s:∀x∈l,x.2.1.length<=100∧x.2.2.length<=400)(g:Tr.Ord t.lst)(z:t.cnt+l.length<=700000)(f:t.wgt+600*l.length<=700000000000):aE6 [.agg [Hj t],.slice nl [] (El l)]=some (.agg [Hj (BK l t)]):=by
 refine Al (Qa rfl) ?_;unfold aDg;have v:(El l).length=l.length:=Qq ..;simp only[Hb,↓C2,G7,simprocAttr,Hm,v];refine cR (nl:=nl) s (R:=BK l t) (λr a1 b m k=>?_) l.length 0 t _ _ O hl g z f rfl (by show 2<=5;decide) rfl rfl rfl rfl rfl rfl rfl;simp only[Hb,↓C2,G7,simprocAttr,Hm,a1,b,m,k]
 all_goals exact Y6
def MZ:=y3 f96 5 [] []
def aC1:=y2 f96 [] [(5,MZ)]
def RL:=y3 f98 3 [] []
def aC0:=y2 f98 [] [(3,RL)]
def MX:=y3 f167 6 [] []
def MW:=y3 f167 4 [] [(6,MX)]
def aCT:=y2 f167 [] [(4,MW)]
def M7:=y3 f43 2 [] []
def aDf:=y2 f43 [] [(2,M7)]
def RK:=y3 f100 5 [] []
def aCZ:=y2 f100 [] [(5,RK)]
def aDe:=y2 f45 [(17,[(7,0)]),(20,[(7,0)]),(27,[(6,0)]),(38,[(8,0)]),(39,[(3,0)])] []
def Nb:=y3 f15 11 [] []
def aDp:=y2 f15 [] [(11,Nb)]
def CF(c:UInt8):Int:=if 48<=c.toNat∧c.toNat<=57 then(c.toNat:Int)-48 else if 97<=c.toNat∧c.toNat<=102 then(c.toNat:Int)-87 else-1
def fZ(c:UInt8):aQF [.int .u8 (c.toNat:Int)]=some (.int .i64 (CF c)):=by
 refine Al (Qa rfl) ?_;have z:=c.toNat_lt;unfold aLi CF;by_cases u:48<=c.toNat∧c.toNat<=57
 ·have a1:((48:Int)<=(c.toNat:Int))=True:=eq_true O;have b:((c.toNat:Int)<=57)=True:=eq_true O;have w:IntKind.u8.wrap ((c.toNat:Int)-48)=(c.toNat:Int)-48:=w8 O O;have m:IntKind.i64.wrap ((c.toNat:Int)-48)=(c.toNat:Int)-48:=Hy O O;rw[if_pos u];simp only[Hb,↓C2,G7,simprocAttr,a1,b,w,m]
  all_goals exact Y6
 rw[if_neg u];by_cases y:97<=c.toNat∧c.toNat<=102
 ·have a1:((48:Int)<=(c.toNat:Int))=True:=eq_true O;have b:((c.toNat:Int)<=57)=False:=eq_false O;have r:((97:Int)<=(c.toNat:Int))=True:=eq_true O;have k:((c.toNat:Int)<=102)=True:=eq_true O;have w:IntKind.u8.wrap ((c.toNat:Int)-97)=(c.toNat:Int)-97:=w8 O O;have m:IntKind.i64.wrap ((c.toNat:Int)-97)=(c.toNat:Int)-97:=Hy O O;have j:IntKind.i64.wrap ((c.toNat:Int)-97+10)=(c.toNat:Int)-87:=by rw[Hy O O];omega
  rw[if_pos y];simp only[Hb,↓C2,G7,simprocAttr,a1,b,r,k,w,m,j]
  all_goals exact Y6
 rw[if_neg y];by_cases x:48<=c.toNat
 ·have a1:((48:Int)<=(c.toNat:Int))=True:=eq_true O;have b:((c.toNat:Int)<=57)=False:=eq_false O;by_cases f:97<=c.toNat
  ·have r:((97:Int)<=(c.toNat:Int))=True:=eq_true O;have k:((c.toNat:Int)<=102)=False:=eq_false O;simp only[Hb,↓C2,G7,simprocAttr,a1,b,r,k]
   all_goals exact Y6
  ·have r:((97:Int)<=(c.toNat:Int))=False:=eq_false O;simp only[Hb,↓C2,G7,simprocAttr,a1,b,r]
   all_goals exact Y6
 ·have a1:((48:Int)<=(c.toNat:Int))=False:=eq_false O;have r:((97:Int)<=(c.toNat:Int))=False:=eq_false O;simp only[Hb,↓C2,G7,simprocAttr,a1,r]
  all_goals exact Y6
def aCz(c:UInt8):-1<=CF c∧CF c<=15:=by
 unfold CF
 repeat' split
 all_goals omega
def EY:Bs->Option Bs
 |[]=>some []
 |[_]=>none
 |a::b::r=>if CF a<0∨CF b<0 then none else(EY r).map λx=>UInt8.ofNat (16*CF a+CF b).toNat::x
def Wu(a b:UInt8)(r:Bs):EY (a::b::r)=if CF a<0∨CF b<0 then none else(EY r).map λx=>UInt8.ofNat (16*CF a+CF b).toNat::x:=by rw[EY]
def nM:∀(n:Nat)(s:Bs),s.length=2*n+1->EY s=none
 |0,s,h=>by
  match s,h with
  |[_],_=>rfl
 |n+1,s,h=>by
  match s,h with
  |a::b::r,h=>
   have:=nM n r YH;unfold EY;rw[this];split<;>rfl
def aEp(s:Bs)(hl:s.length<=1000000):aQT [.str s]=some (.tup [.str ((EY s).getD []),.bool (EY s).isSome]):=by
 refine Al (Qa rfl) ?_;unfold aLN;rcases(by omega:s.length=2*(s.length / 2)∨s.length=2*(s.length / 2)+1)with he|he
 ·have hm:((s.length:Int).tmod 2)=0:=by rw[Zg O];omega
  have hq:IntKind.i64.wrap ((s.length:Int).tdiv 2)=((s.length / 2:Nat):Int):=by rw[Int.tdiv_eq_ediv_of_nonneg O,Hy O O];omega
  generalize hn:s.length / 2=n at *;simp only[↓C2,G9,G7,reduceIte,Qt,Qs,reduceCtorEq,Zd,Ze,hm,hq];refine Au.intro ⟨O,O⟩ ?_;simp only[↓C2,Hc,G7,reduceIte,Qt,Qs];refine BO (n:=n) (I:=λj v=>v.s 0= .str s∧v.s 5= .int .i64 ((2*j:Nat):Int)∧∃t r,v.s 4= .slice false t (AH r)∧r.length=j∧EY s=(EY (s.drop (2*j))).map (r++·)∧LG 9 _ 5 v.m v.c false t) (λj hj ih v g hI=>?_) (λv g hI=>?_) 0 (Qn _) _ _ ⟨rfl,rfl,_,[],rfl,rfl,by cases h:EY s<;>simp[h],⟨λ_ _ _=>rfl,.inr ⟨_,rfl,O,Xa,XV⟩,Xa⟩⟩
  ·obtain⟨ma,o,k⟩:=v;obtain⟨h0,h5,t,r,h4,x,z,hG⟩:=hI;simp only at h0 h5 h4 hG;refine Af Vv.eq_1 ?_;have da:(((2*j:Nat):Int)<(s.length:Int)):=by omega
   have i:(0:Int)<=((2*j:Nat):Int):=O
   have d:(0:Int)<=((2*j+1:Nat):Int):=O
   have sa:IntKind.i64.wrap (((2*j:Nat):Int)+1)=((2*j+1:Nat):Int):=Hy O O;have u:IntKind.i64.wrap (((2*j:Nat):Int)+2)=((2*(j+1):Nat):Int):=YR
   have b1:s[2*j]?=some (s[2*j]' O):=Qi _;have b2:s[2*j+1]?=some (s[2*j+1]' O):=Qi _;have p:s.drop (2*j)=s[2*j]' O::s[2*j+1]' O::s.drop (2*(j+1)):=by
    rw[Qo O,Qo O];rfl
   rw[p]at z;generalize (s[2*j]' O)=a at *;generalize (s[2*j+1]' O)=b at *;have q:=fZ a;have y:=fZ b;have k1:=aCz a;have k2:=aCz b;have ca:∀a:Int,AQ .shl (.int .i64 a) (.int .u64 4)=some (.int .i64 (IntKind.i64.wrap (a*2 ^ min (4:Int).toNat IntKind.i64.bits))):=λa=>rfl
   rw[Wu]at z;simp only[↓C2,G9,reduceIte,Qt,Qs,reduceCtorEq,h0,h5,da,i,d,sa,Qg,b1,b2,Ae aVB 165,q,y];refine A1 ?_;by_cases n1:CF a<0
   ·rw[if_pos (.inl n1)]at z;rw[z];have l:(CF a<0)=True:=eq_true n1;simp only[↓C2,G9,G7,reduceIte,Qt,Qs,reduceCtorEq,h4,l]
    all_goals exact Y6
   by_cases n2:CF b<0
   ·rw[if_pos (.inr n2)]at z;rw[z];have l:(CF a<0)=False:=eq_false n1;have e:(CF b<0)=True:=eq_true n2;simp only[↓C2,G9,G7,reduceIte,Qt,Qs,reduceCtorEq,h4,l,e]
    all_goals exact Y6
   rw[if_neg (λh=>h.elim n1 n2)]at z;have l:(CF a<0)=False:=eq_false n1;have e:(CF b<0)=False:=eq_false n2;have or:=orE (CF a).toNat O (CF b).toNat O;rw[Zb O,Zb O]at or;have f:((16*(CF a).toNat+(CF b).toNat:Nat):Int)=16*CF a+CF b:=O
   rw[f]at or;have w:((UInt8.ofNat (16*CF a+CF b).toNat).toNat:Int)=16*CF a+CF b:=by
    rw[UInt8.toNat_ofNat'];omega
   have na:AH r++[.int .u8 (16*CF a+CF b)]=AH (r++[UInt8.ofNat (16*CF a+CF b).toNat]):=by
    rw[Fj];show _=AH r++[.int .u8 ((UInt8.ofNat (16*CF a+CF b).toNat).toNat:Int)];rw[w]
   have ja:(AH r).length=j:=by rw[Cp,x]
   simp only[↓C2,G9,G7,reduceIte,Qt,Qs,reduceCtorEq,h4,l,e,ca,or];refine Au.intro ⟨by simp only[ja];omega,rfl,Yx⟩ ?_;rw[na];simp only[↓C2,G9,G7,reduceIte,Qt,Qs,h5,u];refine ih _ _ ⟨h0,rfl,_,_,rfl,by simp[x],?_,(by first|exact LG.nil (hG.appf O Xa)|exact LG.nil ((hG.put O).appf O Xa)|exact LG.nil (((hG.put O).put O).appf O Xa)|exact LG.nil ((((hG.put O).put O).put O).appf O Xa)|exact LG.nil (((((hG.put O).put O).put O).put O).appf O Xa)|exact LG.nil ((((((hG.put O).put O).put O).put O).put O).appf O Xa))⟩;rw[z];cases EY (s.drop (2*(j+1)))<;>simp
  ·obtain⟨h0,h5,t,r,h4,x,z,hG⟩:=hI;refine Af Vv.eq_1 ?_;have pa:(((2*n:Nat):Int)<(s.length:Int))=False:=eq_false O;rw[QO O]at z;rw[z];simp only[QS,↓C2,G9,G7,reduceIte,Qt,Qs,reduceCtorEq,h0,h5,h4,pa,Da]
   all_goals (first|rfl|exact⟨rfl,rfl⟩|(simp[EY];done))
 ·have hm:((s.length:Int).tmod 2)=1:=by rw[Zg O];omega
  rw[nM _ s he];simp only[Hb,↓C2,G7,simprocAttr,hm]
  all_goals exact Y6
def Vm(s:Bs)(p:Nat):(Hs s p<128∧Utf8.decode ⟨s.toArray⟩ p=(Hs s p,1))∨(128<=Hs s p∧128<=(Utf8.decode ⟨s.toArray⟩ p).1):=by
 by_cases h:Hs s p<128
 ·refine .inl ⟨h,?_⟩;unfold Utf8.decode;simp only[NV,Z5,h,if_true]
 ·refine .inr ⟨O,?_⟩;have k:=OM s p;unfold Utf8.decode;simp only[NV,Z5,h,if_false]
  (repeat' split)<;>simp_all [Utf8.runeError]<;>omega
def nuS(s:Bs):Nat->Nat->Int->Int
 |0,_,n=>n
 |f+1,p,n=>if p<s.length then(if 48<=Hs s p∧Hs s p<=57 then nuS s f (p+1) (10*n+((Hs s p:Int)-48))else-1)else n
def hU(s:Bs):Int:=if s=[]∨3<s.length∨(1<s.length∧s.head?=some 48)then-1 else nuS s s.length 0 0
def bN(p:Nat):Int:=if p=0 then 0 else if p=1 then 9 else if p=2 then 99 else 999
def aVj(p:Nat):bN p<=999:=by unfold bN;repeat' split<;>omega
def aH6{p:Nat}{n c:Int}(h:n<=bN p)(k:p<3)(z:c<=9):10*n+c<=bN (p+1):=by
 rcases(by omega:p=0∨p=1∨p=2)with rfl|rfl|rfl<;>simp[bN]at *<;>omega
def aRp{x:Int}(u:-2147483648<=x)(y:x<2147483648):IntKind.i32.wrap x=x:=IntWalk.i32_in _ ⟨u,O⟩
def cM{S:G8}{ns i:Id}{s:Bs}{Q:Ex->St->Prop}{e:Int}(hs:s.length<=3)(pa:∀v,e=-1->v.s 2= .int .i64 (-1)->Q .ret v)(t:∀v,v.s 3= .int .i64 e->Q (.exit 0) v):
  ∀(f p:Nat)(n:Int) v g,s.length<=p+f->0<=n->n<=bN p->nuS s f p n=e->v.s 24= .itp i->v.s 3= .int .i64 n->v.m i 1=some (.it s p)->Be S ns MZ Q v g:=by
 intro f;induction f with
 |zero=>
  intro p n v g a z b r q x j;refine Af MZ.eq_1 ?_;have:¬(p<s.length):=O
  simp only[↓C2,Hc,Hl,simprocAttr,j,q,this];exact t _ (by rw[←r];exact x)
 |succ f ih=>
  intro p n v g a z b r q x j;refine Af MZ.eq_1 ?_;unfold nuS at r;have o:=aVj p;by_cases u:p<s.length
  ·rw[if_pos u]at r;rcases Vm s p with ⟨d1,d2⟩|⟨d1,d2⟩
   ·have k:v.m.put i 1 [.it s (p+(Utf8.decode ⟨s.toArray⟩ p).2)] i 1=some (.it s (p+1)):=by rw[Ed,if_pos ⟨rfl,rfl⟩,d2]
    by_cases c:48<=Hs s p∧Hs s p<=57
    ·rw[if_pos c]at r;have a1:((Hs s p:Int)<48)=False:=eq_false O;have a2:((57:Int)<(Hs s p:Int))=False:=eq_false O;have w:IntKind.i64.wrap (10*n)=10*n:=Hy O O;have y:IntKind.i32.wrap ((Hs s p:Int)-48)=(Hs s p:Int)-48:=aRp O O;have e3:IntKind.i64.wrap ((Hs s p:Int)-48)=(Hs s p:Int)-48:=Hy O O;have e4:IntKind.i64.wrap (10*n+((Hs s p:Int)-48))=10*n+((Hs s p:Int)-48):=Hy O O;simp only[↓C2,Hc,Hl,simprocAttr,j,q,x,u,d2,a1,a2,w,y,e3,e4];exact ih (p+1) _ _ _ O O (aH6 b O O) r q rfl k
    ·rw[if_neg c]at r;by_cases c1:Hs s p<48
     ·have a1:((Hs s p:Int)<48)=True:=eq_true O;simp only[↓C2,Hc,Hl,simprocAttr,j,q,x,u,d2,a1];exact pa _ r.symm rfl
     ·have a1:((Hs s p:Int)<48)=False:=eq_false O;have a2:((57:Int)<(Hs s p:Int))=True:=eq_true O;simp only[↓C2,Hc,Hl,simprocAttr,j,q,x,u,d2,a1,a2];exact pa _ r.symm rfl
   ·rw[if_neg O]at r;have a1:(((Utf8.decode ⟨s.toArray⟩ p).1:Int)<48)=False:=eq_false O;have a2:((57:Int)<((Utf8.decode ⟨s.toArray⟩ p).1:Int))=True:=eq_true O;simp only[↓C2,Hc,Hl,simprocAttr,j,q,x,u,a1,a2];exact pa _ r.symm rfl
  ·rw[if_neg u]at r;simp only[↓C2,Hc,Hl,simprocAttr,j,q,u];exact t _ (by rw[←r];exact x)
def aVR:=Ar []
def rZ:=RF aVR aC1 [.t 2] 41
def aBF:Kq rZ 96:=Ap (Aj func96) Ad
def gE(s:Bs):rZ [.str s]=some (.int .i64 (hU s)):=by
 refine Al (Qa rfl) ?_;unfold aC1;unfold hU;by_cases f:s=[]
 ·subst f;rw[if_pos (.inl rfl)];simp only[Hb,↓C2,G7,simprocAttr]
  all_goals exact Y6
 have x:(s=[])=False:=eq_false f;by_cases i:3<s.length
 ·rw[if_pos (.inr (.inl i))];have c1:((3:Int)<(s.length:Int))=True:=eq_true O;simp only[Hb,↓C2,G7,simprocAttr,x,c1]
  all_goals exact Y6
 have c1:((3:Int)<(s.length:Int))=False:=eq_false O;have q:s[0]?=s.head?:=by cases s<;>rfl
 by_cases u:1<s.length
 ·have n:((1:Int)<(s.length:Int))=True:=eq_true O;obtain⟨c,r,rfl⟩:∃c r,s=c::r:=by cases s with|nil=>exact absurd rfl f|cons c r=>exact⟨c,r,rfl⟩
  by_cases y:c=48
  ·rw[if_pos (.inr (.inr ⟨u,Xu⟩))];have o:((c.toNat:Int)=48)=True:=eq_true Xu;simp only[Hb,↓C2,G7,simprocAttr,x,c1,n,Qu,o]
   all_goals exact Y6
  ·rw[if_neg (by rintro(h|h|⟨_,h⟩);exact f h;exact i h;exact y (ZT h))];have o:((c.toNat:Int)=48)=False:=eq_false (λe=>y (UInt8.toNat_inj.1 (by show c.toNat=48;omega)));simp only[Hb,↓C2,G7,simprocAttr,x,c1,n,Qu,o];refine cM (s:=c::r) O (λv z h=>?_) (λv h=>?_) (c::r).length 0 0 _ _ O (Q4 _) V rfl rfl rfl rfl
   ·rw[z];simp only[Hb,↓C2,G7,simprocAttr,h]
    all_goals exact Y6
   ·simp only[Hb,↓C2,G7,simprocAttr,h]
    all_goals exact Y6
 ·have n:((1:Int)<(s.length:Int))=False:=eq_false O;rw[if_neg (by rintro(h|h|⟨h,_⟩);exact f h;exact i h;exact u h)];simp only[Hb,↓C2,G7,simprocAttr,x,c1,n];refine cM (s:=s) O (λv z h=>?_) (λv h=>?_) s.length 0 0 _ _ O (Q4 _) V rfl rfl rfl rfl
  ·rw[z];simp only[Hb,↓C2,G7,simprocAttr,h]
   all_goals exact Y6
  ·simp only[Hb,↓C2,G7,simprocAttr,h]
   all_goals exact Y6
def opS(w:Bs):Nat->Nat->Int
 |0,_=>0
 |f+1,k=>if EE (k:Int)=w then(k:Int)else opS w f (k+1)
def opF(w:Bs):Int:=opS w 18 1
def aAU(w:Bs):∀(f k:Nat),1<=k->0<=opS w f k∧opS w f k<=max 0 ((k:Int)+f-1)
 |0,k,h=>by unfold opS;omega
 |f+1,k,h=>by
  have:=aAU w f (k+1) O;unfold opS;split<;>omega
def aJ6(w:Bs):0<=opF w∧opF w<=18:=by
 have:=aAU w 18 1 (Qf _);unfold opF;omega
def rI:=Ar [(44,Ac yI)]
def aE4:=RF rI aDf [.t 2] 14
def aPn:Kq aE4 43:=Ap (Aj func43) (Aa oX Ad)
def cP{w:Bs}{Q:Ex->St->Prop}{e:Int}(a:∀v,v.s 2= .int .u8 e->Q .ret v)(t:∀v,e=0->Q (.exit 0) v):∀(f k:Nat)(v:St) g,k+f=19->opS w f k=e->v.s 0= .str w->v.s 3= .int .u8 (k:Int)->Be rI [] M7 Q v g
 |0,k,v,g,hf,he,h0,h3=>by
  refine Af M7.eq_1 ?_;have u:((k:Int)<=18)=False:=eq_false O;simp only[Hb,↓C2,G7,simprocAttr,h0,h3,u];exact t _ he.symm
 |f+1,k,v,g,hf,he,h0,h3=>by
  have ih:=cP (w:=w) a t f (k+1);refine Af M7.eq_1 ?_;obtain⟨m,o,b⟩:=v;simp only at h0 h3;have u:((k:Int)<=18)=True:=eq_true O;have j:=PG (op:=(k:Int)) O O;have n:IntKind.u8.wrap ((k:Int)+1)=((k+1:Nat):Int):=by rw[w8 O O];omega
  unfold opS at he;by_cases c:EE (k:Int)=w
  ·rw[if_pos c]at he;have c':(EE (k:Int)=w)=True:=eq_true c;simp only[Hb,↓C2,G7,simprocAttr,h0,h3,u,Ae rI 44,j,c'];exact a _ (by rw[←he];rfl)
  ·rw[if_neg c]at he;have c':(EE (k:Int)=w)=False:=eq_false c;simp only[Hb,↓C2,G7,simprocAttr,h0,h3,u,Ae rI 44,j,c',n];exact ih _ _ O he h0 rfl
def aE3(w:Bs):aE4 [.str w]=some (.int .u8 (opF w)):=by
 refine Al (Qa rfl) ?_;unfold aDf;simp only[Hb,↓C2,G7,simprocAttr];refine cP (w:=w) (e:=opF w) (λv h=>?_) (λv h=>?_) 18 1 _ _ rfl rfl rfl rfl
 ·simp only[Hb,↓C2,G7,simprocAttr,h]
  all_goals exact Y6
 ·rw[h];simp only[Hb,↓C2,G7,simprocAttr]
  all_goals exact Y6
def aEm:=Ar [(42,Ac DS),(96,Ac rZ)]
def aEL:=RF aEm aC0 [.t 2] 20
def aO8:Kq aEL 98:=Ap (Aj func98) (Aa aGV (Aa aBF Ad))
def aEK(s:Bs)(hl:s.length<=1000):aEL [.str s]=some (.slice false [] (AI ((splitC 44 s).map hU))):=by
 refine Al (Qa rfl) ?_;unfold aC0;have i:=Oh (s:=s) (q:=44) O;have ya:=CI (q:=44) s;have ga:=Ga (q:=44) s;generalize splitC 44 s=l at *;have w:((strsD l).length:Int)=(l.length:Int):=by rw[AT]
 simp only[Hb,↓C2,G7,simprocAttr,Ae aEm 42,i,w];refine BO (n:=l.length) (I:=λj v=>v.s 7= .slice false [] (strsD l)∧v.s 8= .int .i64 ((strsD l).length:Int)∧v.s 9= .int .i64 (j:Int)∧∃nl t,v.s 3= .slice nl t (AI ((l.take j).map hU))∧nl=decide (j=0)∧LG 0 _ 3 v.m v.c nl t) (λj p ih v g hI=>?_) (λv g hI=>?_) 0 (Qn _) _ _ ⟨rfl,rfl,rfl,true,[],rfl,rfl,LG.start Xa⟩
 ·obtain⟨ma,o,r⟩:=v;obtain⟨h7,h8,h9,nl,t,x,k,hG⟩:=hI;simp only at h7 h8 h9 x hG;rw[w]at h8;refine Af RL.eq_1 ?_;have u:((j:Int)<l.length):=by omega
  have oa:=nJ (j:=j);have f:=wJ (j:=j) O;have ka:(strsD l)[j]?=some (.str (l[j]' O)):=by unfold strsD;rw[QF,Qi O];rfl
  have h:=gE (l[j]' O);have z:AI ((l.take (j+1)).map hU)=AI ((l.take j).map hU)++[.int .i64 (hU (l[j]' O))]:=by
   rw[QL O,Za];simp[AI]
  have va:(AI ((l.take j).map hU)).length=j:=by simp[AI];omega
  have na:nl=true->AI ((l.take j).map hU)=[]:=by
   grind
  generalize AI ((l.take j).map hU)=y at x z va na;simp only[Hb,↓C2,G7,simprocAttr,h7,h8,h9,x,u,oa,Qg,ka,Ae aEm 96,h];refine Au.intro ⟨O,rfl,Yx⟩ ?_;rw[B8 na,←z];simp only[Hb,↓C2,G7,simprocAttr,h9,f];exact ih _ _ ⟨h7,by rw[w];exact h8,rfl,false,_,rfl,U,Y2⟩
 ·obtain⟨ma,o,r⟩:=v;obtain⟨h7,h8,h9,nl,t,x,k,hG⟩:=hI;simp only at h7 h8 h9 x hG;rw[w]at h8;refine Af RL.eq_1 ?_;have e:decide (l.length=0)=false:=decide_eq_false Y5;rw[Zs (Qf _)]at x;rw[e]at k;subst k;simp only[Hb,↓C2,G7,simprocAttr,h8,h9,x,ZD]
  all_goals exact Y6
def aAl:List Nat:=[114,119,100,120,108,115]
def DF(c:Nat):Nat->Nat->Nat
 |0,k=>k
 |f+1,k=>if k<6∧aAl.getD k 0≠c then DF c f (k+1)else k
def lU(s:Bs):Nat->Nat->Nat->Nat->Nat×Bool
 |0,_,_,o=>(o,true)
 |f+1,p,k,o=>if p<s.length then(if DF (Hs s p) (6-k) k=6 then(0,false)else lU s f (p+1) (DF (Hs s p) (6-k) k+1) (o|||2 ^ DF (Hs s p) (6-k) k))else(o,true)
def OX(s:Bs):Nat×Bool:=lU s s.length 0 0 0
def Ux(c:Nat):∀f k,k<=6->k<=DF c f k∧DF c f k<=6
 |0,k,h=>by unfold DF;omega
 |f+1,k,h=>by
  unfold DF;split
  ·rename_i u;have:=Ux c f (k+1) O;omega
  ·omega
def WK{c d:Nat}(z:128<=c)(p:128<=d):∀f k,DF c f k=DF d f k
 |0,k=>rfl
 |f+1,k=>by
  have n:∀k,aAl.getD k 0<128:=λk=>by
   rcases(by omega:k=0∨k=1∨k=2∨k=3∨k=4∨k=5∨6<=k)with rfl|rfl|rfl|rfl|rfl|rfl|h
   all_goals first|decide|(simp[aAl,ZP,List.getElem?_eq_none (show [114,119,100,120,108,115].length<=k from h)])
  have:=n k;unfold DF;rw[WK z p f (k+1)];by_cases h:k<6
  ·rw[if_pos ⟨h,O⟩,if_pos ⟨h,O⟩]
  ·rw[if_neg (λe=>h e.1),if_neg (λe=>h e.1)]
def aJ5:∀o,o<64->∀k,k<6->(o|||2 ^ k)<64:=V
def qY(s:Bs):∀f p k o,k<=6->o<64->(lU s f p k o).1<64
 |0,p,k,o,hk,h=>h
 |f+1,p,k,o,hk,h=>by
  have hb:=Ux (Hs s p) (6-k) k hk;unfold lU;split
  ·split
   ·decide
   ·exact qY s f _ _ _ O (aJ5 o h _ O)
  ·exact h
def aP5(s:Bs):(OX s).1<64:=qY s _ 0 0 0 V V
def aR3:∀o,o<64->∀k,k<6->bits .or .u8 ((o:Nat):Int) ((2 ^ k:Nat):Int)=((o|||2 ^ k:Nat):Int):=V
def aUB{o k:Nat}(g:o<64)(s:k<6):AQ .or (.int .u8 (o:Int)) (.int .u8 ((2 ^ k:Nat):Int))=some (.int .u8 ((o|||2 ^ k:Nat):Int)):=by
 rw[←aR3 o g k s];rfl
def aPM{k:Nat}(s:k<6):AQ .shl (.int .u8 1) (.int .i64 (k:Int))=some (.int .u8 ((2 ^ k:Nat):Int)):=by
 rcases(by omega:k=0∨k=1∨k=2∨k=3∨k=4∨k=5)with rfl|rfl|rfl|rfl|rfl|rfl<;>rfl
def To{S:G8}{ns:Id}{r:Nat}{Q:Ex->St->Prop}:∀(f k:Nat)(x:St) g,k+f=6->(∀z,z.m=x.m->z.c≥x.c->z.s 5= .int .i64 (DF r f k:Nat)->(∀j,j=4∨j=7∨j=9->z.s j=x.s j)->Q (.exit 2) z)->x.s 5= .int .i64 (k:Int)->x.s 7= .int .i32 (r:Int)->Be S ns MX Q x g
 |0,k,x,g,hf,hexit,h5,h7=>by
  refine Af MX.eq_1 ?_;have u:((k:Int)<6)=False:=eq_false O;simp only[Hb,↓C2,G7,simprocAttr,h5,h7,u];exact hexit _ rfl Xa h5 (by rintro j (rfl|rfl|rfl)<;>rfl)
 |f+1,k,x,g,hf,hexit,h5,h7=>by
  refine Af MX.eq_1 ?_;have ih:=To (S:=S) (ns:=ns) (r:=r) (Q:=Q) f (k+1);obtain⟨ma,ia,b⟩:=x;simp only at h5 h7 hexit;have u:((k:Int)<6)=True:=eq_true O;have p:(0:Int)<=(k:Int):=O
  obtain⟨c,o,v⟩:∃c:UInt8,([114,119,100,120,108,115]:List UInt8)[k]?=some c∧c.toNat=aAl.getD k 0:=by
   rcases(by omega:k=0∨k=1∨k=2∨k=3∨k=4∨k=5)with rfl|rfl|rfl|rfl|rfl|rfl<;>exact⟨_,rfl,rfl⟩
  have va:=c.toNat_lt;have t:IntKind.i32.wrap (c.toNat:Int)=(c.toNat:Int):=aRp O O;have y:IntKind.i64.wrap ((k:Int)+1)=((k+1:Nat):Int):=Xh
  unfold DF at hexit;rw[←v]at hexit;by_cases h:c.toNat=r
  ·rw[if_neg (λe=>e.2 h)]at hexit;have a1:((c.toNat:Int)=(r:Int))=True:=eq_true O;simp only[Hb,↓C2,G7,simprocAttr,h5,h7,u,p,o,t,a1,Qg];exact hexit _ rfl Xa h5 (by rintro j (rfl|rfl|rfl)<;>rfl)
  ·rw[if_pos ⟨O,h⟩]at hexit;have a1:((c.toNat:Int)=(r:Int))=False:=eq_false O;simp only[Hb,↓C2,G7,simprocAttr,h5,h7,u,p,o,t,y,a1,Qg];exact ih _ _ O (λz w n a q=>hexit z w (by simp only at n;omega) a (λj i=>(q j i).trans (by rcases i with rfl|rfl|rfl<;>rfl))) rfl h7
def aBo{S:G8}{ns i:Id}{s:Bs}{Q:Ex->St->Prop}{e:Nat×Bool}(pa:∀v,e=(0,false)->v.s 2= .int .u8 0->v.s 3= .bool false->Q .ret v)(x:∀v,e.2=true->v.s 4= .int .u8 (e.1:Int)->Q (.exit 0) v):
  ∀(f p k o:Nat)(v:St) g,s.length<=p+f->k<=6->o<64->lU s f p k o=e->v.s 9= .itp i->v.s 4= .int .u8 (o:Int)->v.s 5= .int .i64 (k:Int)->v.m i 1=some (.it s p)->Be S ns MW Q v g:=by
 intro f;induction f with
 |zero=>
  intro p k o v g hf t ho he h9 h4 h5 n;refine Af MW.eq_1 ?_;have:¬(p<s.length):=O
  simp only[↓C2,Hc,Hl,simprocAttr,n,h9,this];unfold lU at he;subst he;exact x _ rfl h4
 |succ f ih=>
  intro p k o v g hf t ho he h9 h4 h5 n;refine Af MW.eq_1 ?_;obtain⟨ma,ia,ea⟩:=v;simp only at h9 h4 h5 n;unfold lU at he;by_cases w:p<s.length
  ·rw[if_pos w]at he;have hb:=Ux (Hs s p) (6-k) k t;simp only[↓C2,Hc,Hl,simprocAttr,n,h9,w];have b:DF (Utf8.decode ⟨s.toArray⟩ p).1 (6-k) k=DF (Hs s p) (6-k) k:=by
    rcases Vm s p with ⟨d1,d2⟩|⟨d1,d2⟩
    ·rw[d2]
    ·exact WK d2 d1 _ _
   refine To (r:=(Utf8.decode ⟨s.toArray⟩ p).1) (6-k) k _ _ O (λz j qa a hj=>?_) h5 rfl;rw[b]at a;generalize hq:DF (Hs s p) (6-k) k=q at *;have j4:=(hj 4 (.inl rfl)).trans h4;have j9:=(hj 9 (.inr (.inr rfl))).trans h9;by_cases h6:q=6
   ·subst h6;rw[if_pos rfl]at he;have a:z.s 5= .int .i64 6:=a;simp only[Hb,↓C2,G7,simprocAttr,a];exact pa _ he.symm rfl rfl
   ·rw[if_neg h6]at he;have c:p<s.length:=w;have hw:(Utf8.decode ⟨s.toArray⟩ p).2=1:=by
     rcases Vm s p with ⟨d1,d2⟩|⟨d1,d2⟩
     ·rw[d2]
     ·exfalso;have:∀f k,k<=6->k+f=6->DF (Hs s p) f k=6:=by
       intro f;induction f with
       |zero=>intro k _ h;unfold DF;omega
       |succ f ih=>
        intro k u y;unfold DF;have:aAl.getD k 0<128:=by
         rcases(by omega:k=0∨k=1∨k=2∨k=3∨k=4∨k=5)with rfl|rfl|rfl|rfl|rfl|rfl<;>decide
        rw[if_pos ⟨O,O⟩];exact ih (k+1) O O
      exact h6 (hq.symm.trans (this (6-k) k t O))
    have a1:((q:Int)=6)=False:=eq_false O;have e1:=aPM (k:=q) O;have e2:=aUB (o:=o) (k:=q) ho O;have e3:IntKind.i64.wrap ((q:Int)+1)=((q+1:Nat):Int):=Xh
    simp only[Hb,↓C2,G7,simprocAttr,a,j4,a1,e1,e2,e3];refine ih (p+1) (q+1) (o|||2 ^ q) _ _ O O (aJ5 o ho q O) he j9 rfl rfl ?_;show z.m i 1=_;rw[j];show ia.put i 1 [.it s (p+(Utf8.decode ⟨s.toArray⟩ p).2)] i 1=_;rw[Ed,if_pos ⟨rfl,rfl⟩,hw]
  ·rw[if_neg w]at he;simp only[↓C2,Hc,Hl,simprocAttr,n,h9,w];subst he;exact x _ rfl h4
def aVO:=Ar []
def aEB:=RF aVO aCT [.t 2,.t 3] 33
def aO2:Kq aEB 167:=Ap (Aj func167) Ad
def aEA(s:Bs):aEB [.str s]=some (.tup [.int .u8 ((OX s).1:Nat),.bool (OX s).2]):=by
 refine Al (Qa rfl) ?_;unfold aCT;simp only[Hb,↓C2,G7,simprocAttr];refine aBo (s:=s) (e:=OX s) (λv z y i=>?_) (λv z p=>?_) s.length 0 0 0 _ _ O V V rfl rfl rfl rfl rfl
 ·rw[z];simp only[Hb,↓C2,G7,simprocAttr,y,i]
  all_goals exact Y6
 ·rw[z];simp only[Hb,↓C2,G7,simprocAttr,p]
  all_goals exact Y6
def F9{q:UInt8}:∀(s:Bs),∀x∈splitC q s,x.length<=s.length
 |[],x,h=>by simp only[splitC,Qb]at h;subst h;exact Qf _
 |c::r,x,h=>by
  have ih:=F9 (q:=q) r;unfold splitC at h;split at h
  ·rcases Qv.1 h with rfl|h
   ·exact Qn _
   ·have:=ih x h;simp only[Qk];omega
  ·cases hs:splitC q r with
   |nil=>
    rw[hs]at h;simp only[Qb]at h;subst h;simp
   |cons y t=>
    rw[hs]at h ih;simp only[Qv]at h;rcases h with rfl|h
    ·have:=ih y Qj;simp only[Qk];omega
    ·have:=ih x (Qh _ h);simp only[Qk];omega
def qO(x:Bs)(c:UInt8):(BW x c).1.length<=x.length:=by
 unfold BW;split
 ·exact Qf _
 ·exact List.length_take_le' _ _
def NH(x:Bs):Bool:=(BW x 58).2.2&&(OX (BW x 58).2.1).2
def WP(x:Bs):Rl:=((BW x 58).1,((OX (BW x 58).2.1).1:Int))
def LH(s:Bs):Bool×List Rl×Int:=
 if s=[]then(true,[],0)else if(splitC 44 s).all NH=false then(true,[],4)else if Cw ((splitC 44 s).map WP)≠0 then(true,[],Cw ((splitC 44 s).map WP))else(false,(splitC 44 s).map WP,0)
def LS:=Ar [(42,Ac DS),(166,Ac aIB),(167,Ac aEB),(168,Ac yS)]
def aEJ:=RF LS aCZ [.t 2,.t 3] 52
def aO7:Kq aEJ 100:=Ap (Aj func100) (Aa aGV (Aa aKs (Aa aO2 (Aa bV Ad))))
def aEI(s:Bs)(hl:s.length<=1000):aEJ [.str s]=some (.tup [.slice (LH s).1 [] (As (LH s).2.1),.int .i64 (LH s).2.2]):=by
 refine Al (Qa rfl) ?_;unfold aCZ;unfold LH;by_cases h0:s=[]
 ·subst h0;rw[if_pos rfl];simp only[Hb,↓C2,G7,simprocAttr]
  all_goals exact Y6
 rw[if_neg h0];have ha:(s=[])=False:=eq_false h0;have i:=Oh (s:=s) (q:=44) O;have ya:=CI (q:=44) s;have ga:=Ga (q:=44) s;have za:=F9 (q:=44) s;generalize splitC 44 s=l at *;have ca:((strsD l).length:Int)=(l.length:Int):=by rw[AT]
 simp only[Hb,↓C2,G7,simprocAttr,ha,Ae LS 42,i,ca];refine BO (n:=l.length) (I:=λj v=>v.s 16= .slice false [] (strsD l)∧v.s 17= .int .i64 ((strsD l).length:Int)∧v.s 18= .int .i64 (j:Int)∧(l.take j).all NH=true∧∃nl t,v.s 4= .slice nl t (As ((l.take j).map WP))∧nl=decide (j=0)∧LG 0 _ 174 v.m v.c nl t) (λj hj ih v g hI=>?_) (λv g hI=>?_) 0 (Qn _) _ _ ⟨rfl,rfl,rfl,rfl,true,[],rfl,rfl,LG.start Xa⟩
 ·obtain⟨ma,ia,ea⟩:=v;obtain⟨ta,ra,sa,ja,nl,t,h4,pa,hG⟩:=hI;simp only at ta ra sa h4 hG;rw[ca]at ra;refine Af RK.eq_1 ?_;have da:((j:Int)<l.length):=by omega
  have oa:=nJ (j:=j);have hw:=wJ (j:=j) O;have ka:(strsD l)[j]?=some (.str (l[j]' O)):=by unfold strsD;rw[QF,Qi O];rfl
  have y:=za _ (QQ (l:=l) (n:=j) O);have qa:(l[j]' O)∈l:=QQ _;have z:As ((l.take (j+1)).map WP)=As ((l.take j).map WP)++[.agg [.str (WP (l[j]' O)).1,.int .u8 (WP (l[j]' O)).2]]:=by
   rw[QL O,Za];simp[As,rlD]
  have u:(l.take (j+1)).all NH=NH (l[j]' O):=by
   rw[QL O,List.all_append,ja];simp
  have va:(As ((l.take j).map WP)).length=j:=by simp[As];omega
  have na:nl=true->As ((l.take j).map WP)=[]:=by
   grind
  generalize As ((l.take j).map WP)=ba at h4 z va na;generalize (l[j]' O)=x at *;have d:=rM x 58 O;have h:=aEA (BW x 58).2.1;by_cases c1:(BW x 58).2.2=true
  ·by_cases c2:(OX (BW x 58).2.1).2=true
   ·rw[c1]at d;rw[c2]at h;have o:NH x=true:=by unfold NH;rw[c1,c2];rfl
    have p:(WP x).1=(BW x 58).1:=rfl;have k:(WP x).2=((OX (BW x 58).2.1).1:Int):=rfl;rw[p,k]at z;simp only[Hb,↓C2,G7,simprocAttr,ta,ra,sa,h4,da,oa,Qg,ka,Ae LS 166,d,Ae LS 167,h];refine Au.intro ⟨O,rfl,Yx⟩ ?_;rw[B8 na,←z];simp only[Hb,↓C2,G7,simprocAttr,sa,hw];exact ih _ _ ⟨ta,by rw[ca];exact ra,rfl,by rw[u];exact o,false,_,rfl,U,Y2⟩
   ·have o:NH x=false:=by unfold NH;rw[c1];simpa using c2
    have c2:(OX (BW x 58).2.1).2=false:=by simpa using c2
    rw[c1]at d;rw[c2]at h;have hA:l.all NH=false:=by
     rw[ZM];exact⟨x,qa,by rw[o];decide⟩
    rw[if_pos hA];simp only[Hb,↓C2,G7,simprocAttr,ta,ra,sa,h4,da,oa,Qg,ka,Ae LS 166,d,Ae LS 167,h]
    all_goals exact Y6
  ·have c1:(BW x 58).2.2=false:=by simpa using c1
   have o:NH x=false:=by unfold NH;rw[c1];rfl
   rw[c1]at d;have hA:l.all NH=false:=by
    rw[ZM];exact⟨x,qa,by rw[o];decide⟩
   rw[if_pos hA];simp only[Hb,↓C2,G7,simprocAttr,ta,ra,sa,h4,da,oa,Qg,ka,Ae LS 166,d,Ae LS 167,h]
   all_goals exact Y6
 ·obtain⟨ma,ia,ea⟩:=v;obtain⟨ta,ra,sa,ja,nl,t,h4,pa,hG⟩:=hI;simp only at ta ra sa h4 hG;rw[ca]at ra;refine Af RK.eq_1 ?_;have e:decide (l.length=0)=false:=decide_eq_false Y5;rw[Zs (Qf _)]at h4 ja;rw[e]at pa;subst pa;have hA:¬l.all NH=false:=by rw[ja];decide
  rw[if_neg hA];have f:=Sm (nl:=false) (l:=l.map WP) (by rw[Qq];omega) (λr hr=>by
   obtain⟨x,w,rfl⟩:=Ql.1 hr;have:=za x w;have:=qO x 58;exact⟨by show(BW x 58).1.length<=1000;omega,YL⟩)
  by_cases hp:Cw (l.map WP)≠0
  ·rw[if_pos hp];have wa:(Cw (l.map WP)=0)=False:=eq_false hp;simp only[Hb,↓C2,G7,simprocAttr,ra,sa,h4,ZD,Ae LS 168,f,wa]
   all_goals exact Y6
  ·rw[if_neg hp];have hp:=Decidable.not_not.1 hp;rw[hp]at f;simp only[Hb,↓C2,G7,simprocAttr,ra,sa,h4,ZD,Ae LS 168,f]
   all_goals exact Y6
def Ej(a:Ak)(c:Int)(s:Bs):Ak×Int:=
 if c=116 then({a with tk:=s},Bp {a with tk:=s} 116)
 else if c=112 then({a with pa:=s},Bp {a with pa:=s} 112)
 else if c=109 then({a with ot:=s},Bp {a with ot:=s} 109)
 else if c=113 then({a with ot:=s},Bp {a with ot:=s} 113)
 else if c=110 then({a with n:=hU s},Bp {a with n:=hU s} 110)
 else if c=99 then({a with cas:=if s=[45]then-1 else hU s},Df (decide (s=[45])||decide (0<=hU s)))
 else if c=102 then({a with fl:=decide (s=[49])},Df (decide (s=[49])||decide (s=[48])))
 else if c=108 then(if s=[45]then(a,Bp a 108)else({a with nln:=false,ns:=(splitC 44 s).map hU},Bp {a with nln:=false,ns:=(splitC 44 s).map hU} 108))
 else if c=100 then(if s=[45]then(a,0)else({a with da:=(EY s).getD []},Df ((EY s).isSome&&decide (s≠[]))))
 else if c=114 then(if s=[45]then(a,0)else if s=[]then(a,4)else({a with nlr:=(LH s).1,rs:=(LH s).2.1},(LH s).2.2))
 else if c=107 then({a with key:=(EY s).getD []},Df ((EY s).isSome&&decide ((((EY s).getD []).length:Int)=16)))
 else(a,Bp a c)
def aAN(s:Bs)(g:s.length<=400):(LH s).2.1.length<=401∧∀r∈(LH s).2.1,r.1.length<=400∧0<=r.2∧r.2<256:=by
 unfold LH;split
 ·exact⟨Qn _,λr h=>Xc⟩
 split
 ·exact⟨Qn _,λr h=>Xc⟩
 split
 ·exact⟨Qn _,λr h=>Xc⟩
 ·refine⟨by simp only[Qq];have:=CI (q:=44) s;omega,λr h=>?_⟩;obtain⟨x,w,rfl⟩:=Ql.1 h;have:=F9 s x w;have:=qO x 58;have:=aP5 (BW x 58).2.1;exact⟨by show(BW x 58).1.length<=400;omega,YL,by show((OX (BW x 58).2.1).1:Int)<256;omega⟩
def nN:∀(n:Nat)(s x:Bs),s.length<=n->EY s=some x->x.length<=s.length
 |0,s,x,h,e=>by
  match s,h with
  |[],_=>cases e;exact Qf _
 |n+1,s,x,h,e=>by
  match s,h,e with
  |[],_,e=>cases e;exact Qf _
  |[_],_,e=>cases e
  |a::b::r,h,e=>
   rw[Wu]at e;split at e
   ·cases e
   ·obtain⟨y,o,rfl⟩:=QE.1 e;have:=nN n r y YH o;simp only[Qk];omega
def zW(s:Bs):((EY s).getD []).length<=s.length:=by
 cases h:EY s with
 |none=>exact Qn _
 |some x=>exact nN _ s x (Qf _) h
def UI{a:Ak}(x:HJ a){c:Int}{s:Bs}(g:s.length<=400):HJ (Ej a c s).1:=by
 have u:=zW s;have y:=aAN s g;have i:=CI (q:=44) s;unfold Ej;by_cases b:c=116
 ·rw[if_pos b];exact⟨x.op0,x.op,Xa,x.pa,x.ot,x.ns,x.da,x.rl,x.rs,x.key⟩
 rw[if_neg b];by_cases c1:c=112
 ·rw[if_pos c1];exact⟨x.op0,x.op,x.tk,Xa,x.ot,x.ns,x.da,x.rl,x.rs,x.key⟩
 rw[if_neg c1];by_cases n:c=109
 ·rw[if_pos n];exact⟨x.op0,x.op,x.tk,x.pa,Xa,x.ns,x.da,x.rl,x.rs,x.key⟩
 rw[if_neg n];by_cases o:c=113
 ·rw[if_pos o];exact⟨x.op0,x.op,x.tk,x.pa,Xa,x.ns,x.da,x.rl,x.rs,x.key⟩
 rw[if_neg o];by_cases v:c=110
 ·rw[if_pos v];exact⟨x.op0,x.op,x.tk,x.pa,x.ot,x.ns,x.da,x.rl,x.rs,x.key⟩
 rw[if_neg v];by_cases k:c=99
 ·rw[if_pos k];exact⟨x.op0,x.op,x.tk,x.pa,x.ot,x.ns,x.da,x.rl,x.rs,x.key⟩
 rw[if_neg k];by_cases p:c=102
 ·rw[if_pos p];exact⟨x.op0,x.op,x.tk,x.pa,x.ot,x.ns,x.da,x.rl,x.rs,x.key⟩
 rw[if_neg p];by_cases w:c=108
 ·rw[if_pos w];by_cases e:s=[45]
  ·rw[if_pos e];exact x
  ·rw[if_neg e];exact⟨x.op0,x.op,x.tk,x.pa,x.ot,by simp only[Qq];omega,x.da,x.rl,x.rs,x.key⟩
 rw[if_neg w];by_cases z:c=100
 ·rw[if_pos z];by_cases e:s=[45]
  ·rw[if_pos e];exact x
  ·rw[if_neg e];exact⟨x.op0,x.op,x.tk,x.pa,x.ot,x.ns,Xa,x.rl,x.rs,x.key⟩
 rw[if_neg z];by_cases t:c=114
 ·rw[if_pos t];by_cases e:s=[45]
  ·rw[if_pos e];exact x
  rw[if_neg e];by_cases m:s=[]
  ·rw[if_pos m];exact x
  ·rw[if_neg m];exact⟨x.op0,x.op,x.tk,x.pa,x.ot,x.ns,x.da,Xa,λr j=>⟨by have:=y.2 r j;omega,(y.2 r j).2.1⟩,x.key⟩
 rw[if_neg t];by_cases f:c=107
 ·rw[if_pos f];exact⟨x.op0,x.op,x.tk,x.pa,x.ot,x.ns,x.da,x.rl,x.rs,Xa⟩
 rw[if_neg f];exact x
def Cb:G8:=Ar [(96,Ac rZ),(97,Ac aRa),(98,Ac aEL),(99,Ac aQT),(100,Ac aEJ),(101,Ac aFD)]
def gH:List D->Option D:=RF Cb aDe [.cell (some 11) 6,.t 7] 122
def aPm:Kq gH 45:=Ap (Aj func45) (Aa aBF (Aa aKe (Aa aO8 (Aa aTZ (Aa aO7 (Aa aKk Ad))))))
def aE2(a:Ak)(x:HJ a)(c:Int)(s:Bs)(hs:s.length<=400):gH [HA a,.int .i32 c,.str s]=some (.tup [HA (Ej a c s).1,.int .i64 (Ej a c s).2]):=by
 refine Al (Qa rfl) ?_;unfold aDe;have h:=gE s;have z:=aEK s O;have t:=aEp s O;have g:=aEI s O;have u:=UI x (c:=c) hs;unfold Ej at u ⊢;by_cases c1:c=116
 ·subst c1;simp only[reduceIte,QB]at u ⊢;have d:=HP (c:=116) u;unfold HA Hw at d ⊢;simp only[Hb,↓C2,G7,simprocAttr,Ae Cb 101,d]
  (refine Au.intro (Am ?_) ?_;first|rfl|simp[AV,AF,Hu,Ai,Ac])
  simp only[Hb,↓C2,G7,simprocAttr]
  all_goals exact Y6
 have n1:(c=116)=False:=eq_false c1;by_cases q:c=112
 ·subst q;simp only[reduceIte,QB]at u ⊢;have d:=HP (c:=112) u;unfold HA Hw at d ⊢;simp only[Hb,↓C2,G7,simprocAttr,Ae Cb 101,d]
  (refine Au.intro (Am ?_) ?_;first|rfl|simp[AV,AF,Hu,Ai,Ac])
  simp only[Hb,↓C2,G7,simprocAttr]
  all_goals exact Y6
 have n2:(c=112)=False:=eq_false q;by_cases o:c=109
 ·subst o;simp only[reduceIte,QB]at u ⊢;have d:=HP (c:=109) u;unfold HA Hw at d ⊢;simp only[Hb,↓C2,G7,simprocAttr,Ae Cb 101,d]
  (refine Au.intro (Am ?_) ?_;first|rfl|simp[AV,AF,Hu,Ai,Ac])
  simp only[Hb,↓C2,G7,simprocAttr]
  all_goals exact Y6
 have n3:(c=109)=False:=eq_false o;by_cases w:c=113
 ·subst w;simp only[reduceIte,QB]at u ⊢;have d:=HP (c:=113) u;unfold HA Hw at d ⊢;simp only[Hb,↓C2,G7,simprocAttr,Ae Cb 101,d]
  (refine Au.intro (Am ?_) ?_;first|rfl|simp[AV,AF,Hu,Ai,Ac])
  simp only[Hb,↓C2,G7,simprocAttr]
  all_goals exact Y6
 have n4:(c=113)=False:=eq_false w;by_cases c5:c=110
 ·subst c5;simp only[reduceIte,QB]at u ⊢;have d:=HP (c:=110) u;unfold HA Hw at d ⊢;simp only[Hb,↓C2,G7,simprocAttr,Ae Cb 96,h,Ae Cb 101,d]
  (refine Au.intro (Am ?_) ?_;first|rfl|simp[AV,AF,Hu,Ai,Ac])
  simp only[Hb,↓C2,G7,simprocAttr]
  all_goals exact Y6
 have n5:(c=110)=False:=eq_false c5;by_cases r:c=99
 ·subst r;simp only[reduceIte,QB]at u ⊢;have b:=HM;unfold HA Hw;have m:((0:Int)<=-1)=False:=eq_false V;by_cases e:s=[45]
  ·have p:(s=[45])=True:=eq_true e;rw[if_pos e,decide_eq_true e];simp only[Hb,↓C2,G7,simprocAttr,Ae Cb 96,h,p,Ae Cb 97,b]
   (refine Au.intro (Am ?_) ?_;first|rfl|simp[AV,AF,Hu,Ai,Ac])
   simp only[Hb,↓C2,G7,simprocAttr]
   all_goals exact Y6
  ·have p:(s=[45])=False:=eq_false e;rw[if_neg e,decide_eq_false e];simp only[Hb,↓C2,G7,simprocAttr,Ae Cb 96,h,p,Ae Cb 97,b]
   (refine Au.intro (Am ?_) ?_;first|rfl|simp[AV,AF,Hu,Ai,Ac])
   simp only[Hb,↓C2,G7,simprocAttr]
   all_goals exact Y6
 have n6:(c=99)=False:=eq_false r;by_cases c7:c=102
 ·subst c7;simp only[reduceIte,QB]at u ⊢;have b:=HM;unfold HA Hw;by_cases e:s=[49]
  ·have p:(s=[49])=True:=eq_true e;rw[decide_eq_true e];simp only[Hb,↓C2,G7,simprocAttr,p,Ae Cb 97,b]
   (refine Au.intro (Am ?_) ?_;first|rfl|simp[AV,AF,Hu,Ai,Ac])
   simp only[Hb,↓C2,G7,simprocAttr]
   all_goals exact Y6
  ·have p:(s=[49])=False:=eq_false e;rw[decide_eq_false e];simp only[Hb,↓C2,G7,simprocAttr,p,Ae Cb 97,b]
   (refine Au.intro (Am ?_) ?_;first|rfl|simp[AV,AF,Hu,Ai,Ac])
   simp only[Hb,↓C2,G7,simprocAttr]
   all_goals exact Y6
 have n7:(c=102)=False:=eq_false c7;by_cases c8:c=108
 ·subst c8;simp only[reduceIte,QB]at u ⊢;by_cases e:s=[45]
  ·have p:(s=[45])=True:=eq_true e;rw[if_pos e]at u ⊢;have d:=HP (c:=108) x;unfold HA Hw at d ⊢;simp only[Hb,↓C2,G7,simprocAttr,p,Ae Cb 101,d]
   (refine Au.intro (Am ?_) ?_;first|rfl|simp[AV,AF,Hu,Ai,Ac])
   simp only[Hb,↓C2,G7,simprocAttr]
   all_goals exact Y6
  ·have p:(s=[45])=False:=eq_false e;rw[if_neg e]at u ⊢;have d:=HP (c:=108) u;unfold HA Hw at d ⊢;simp only[Hb,↓C2,G7,simprocAttr,p,Ae Cb 98,z,Ae Cb 101,d]
   (refine Au.intro (Am ?_) ?_;first|rfl|simp[AV,AF,Hu,Ai,Ac])
   simp only[Hb,↓C2,G7,simprocAttr]
   all_goals exact Y6
 have n8:(c=108)=False:=eq_false c8;by_cases c9:c=100
 ·subst c9;simp only[reduceIte,QB]at u ⊢;have b:=HM;by_cases e:s=[45]
  ·have p:(s=[45])=True:=eq_true e;have y:(s=[])=False:=eq_false (by rw[e];decide);have n:Df true=0:=rfl;rw[if_pos e]at u ⊢;unfold HA Hw;simp only[Hb,↓C2,G7,simprocAttr,p,y,Ae Cb 97,b,n]
   (refine Au.intro (Am ?_) ?_;first|rfl|simp[AV,AF,Hu,Ai,Ac])
   simp only[Hb,↓C2,G7,simprocAttr]
   all_goals exact Y6
  ·have p:(s=[45])=False:=eq_false e;rw[if_neg e]at u ⊢;unfold HA Hw;cases hu:(EY s).isSome with
   |true=>
    rw[hu]at t;simp only[Hb,↓C2,G7,simprocAttr,p,Ae Cb 99,t,Ae Cb 97,b]
    (refine Au.intro (Am ?_) ?_;first|rfl|simp[AV,AF,Hu,Ai,Ac])
    simp only[Hb,↓C2,G7,simprocAttr]
    all_goals exact Y6
   |false=>
    rw[hu]at t;simp only[Hb,↓C2,G7,simprocAttr,p,Ae Cb 99,t,Ae Cb 97,b]
    (refine Au.intro (Am ?_) ?_;first|rfl|simp[AV,AF,Hu,Ai,Ac])
    simp only[Hb,↓C2,G7,simprocAttr]
    all_goals exact Y6
 have n9:(c=100)=False:=eq_false c9;by_cases f:c=114
 ·subst f;simp only[reduceIte,QB]at u ⊢;by_cases e:s=[45]
  ·have p:(s=[45])=True:=eq_true e;rw[if_pos e];unfold HA Hw;simp only[Hb,↓C2,G7,simprocAttr,p]
   all_goals exact Y6
  have p:(s=[45])=False:=eq_false e;rw[if_neg e];by_cases v:s=[]
  ·have j:(s=[])=True:=eq_true v;rw[if_pos v];unfold HA Hw;simp only[Hb,↓C2,G7,simprocAttr,p,j,Ae Cb 100,g]
   all_goals exact Y6
  ·have j:(s=[])=False:=eq_false v;rw[if_neg v];unfold HA Hw;simp only[Hb,↓C2,G7,simprocAttr,p,j,Ae Cb 100,g]
   all_goals exact Y6
 have l:(c=114)=False:=eq_false f;by_cases i:c=107
 ·subst i;simp only[reduceIte,QB]at u ⊢;have b:=HM;unfold HA Hw;cases hu:(EY s).isSome with
  |true=>
   rw[hu]at t;simp only[Hb,↓C2,G7,simprocAttr,Ae Cb 99,t,Ae Cb 97,b]
   (refine Au.intro (Am ?_) ?_;first|rfl|simp[AV,AF,Hu,Ai,Ac])
   simp only[Hb,↓C2,G7,simprocAttr]
   all_goals exact Y6
  |false=>
   rw[hu]at t;simp only[Hb,↓C2,G7,simprocAttr,Ae Cb 99,t,Ae Cb 97,b]
   (refine Au.intro (Am ?_) ?_;first|rfl|simp[AV,AF,Hu,Ai,Ac])
   simp only[Hb,↓C2,G7,simprocAttr]
   all_goals exact Y6
 have k:(c=107)=False:=eq_false i;simp only[c1,q,o,w,c5,r,c7,c8,c9,f,i,if_false]at u ⊢;have d:=HP (c:=c) x;unfold HA Hw at d ⊢;simp only[Hb,↓C2,G7,simprocAttr,n1,n2,n3,n4,n5,n6,n7,n8,n9,l,k,Ae Cb 101,d]
 (refine Au.intro (Am ?_) ?_;first|rfl|simp[AV,AF,Hu,Ai,Ac])
 simp only[Hb,↓C2,G7,simprocAttr]
 all_goals exact Y6
def akZ:Ak:=⟨0,[],[],[],0,0,false,true,[],[],true,[],[]⟩
def FB:Ak->Bs->List Bs->Ak×Int
 |a,[],_=>(a,0)
 |a,_::_,[]=>(akZ,4)
 |a,c::r,w::ws=>if(Ej a (c.toNat:Int) w).2≠0 then(akZ,(Ej a (c.toNat:Int) w).2)else FB (Ej a (c.toNat:Int) w).1 r ws
def EA(s:Bs):Ak×Int:=
 if 400<s.length then(akZ,5)
 else if opF ((splitC 32 s).getD 0 [])=0 then(akZ,22)
 else if(splitC 32 s).length≠1+(BH (opF ((splitC 32 s).getD 0 []))).length then(akZ,4)
 else FB {akZ with op:=opF ((splitC 32 s).getD 0 [])} (BH (opF ((splitC 32 s).getD 0 []))) ((splitC 32 s).drop 1)
def aBq{S:G8}(k:S 45=some (Ac gH)){ls:Bs}(n:∀c∈ls,c.toNat<128)(ya:ls.length<=100){ws:List Bs}(ab:∀w∈ws,w.length<=400)(hl:ws.length=1+ls.length){r:Ak×Int}{Q:Ex->St->Prop}
  (pa:∀v,r.2≠0->r.1=akZ->v.s 3= .int .i64 r.2->v.s 2= .ptr [0] 0->Ag v.m [0] 0 11=some (Hw akZ)->Q .ret v)
  (ga:∀v,r.2=0->v.s 2= .ptr [0] 0->v.s 5= .ptr [13] 0->Ag v.m [0] 0 11=some (Hw akZ)->Ag v.m [13] 0 11=some (Hw r.1)->Q (.exit 0) v):
  ∀(f p:Nat)(b:Ak) v g,ls.length=p+f->FB b (ls.drop p) (ws.drop (p+1))=r->HJ b->v.s 2= .ptr [0] 0->v.s 5= .ptr [13] 0->v.s 37= .itp [30]->v.s 4= .slice false [] (strsD ws)->Ag v.m [0] 0 11=some (Hw akZ)->Ag v.m [13] 0 11=some (Hw b)->v.m [30] 1=some (.it ls p)->
   Be S [] Nb Q v g:=by
 have la:([0]:Id)≠[30]:=V
 have l:([13]:Id)≠[30]:=V
 have o:([0]:Id)≠[13]:=V
 intro f;induction f with
 |zero=>
  intro p b v g hf x hb h2 h5 a h4 hm fa ca;refine Af Nb.eq_1 ?_;have hp:¬(p<ls.length):=O
  simp only[↓C2,Hc,simprocAttr,a,hp,ca,Qu];rw[List.drop_of_length_le O]at x;simp only[FB]at x;subst x;exact ga _ rfl h2 h5 hm fa
 |succ f ih=>
  intro p b v g hf x hb h2 h5 a h4 hm fa ca;refine Af Nb.eq_1 ?_;have hp:p<ls.length:=O
  have ka:ls[p]?=some ls[p]:=Qi hp;have qa:ls[p]∈ls:=QQ hp;have i:=N7 ka (n _ qa);have j:p+1<ws.length:=O
  have t:ws[p+1]∈ws:=QQ j;have xa:=ab _ t;have d:(strsD ws)[p+1]?=some (.str ws[p+1]):=by unfold strsD;rw[QF,Qi j];rfl
  have hR:=aE2 b hb (ls[p].toNat:Int) ws[p+1] xa;have u:=UI hb (c:=(ls[p].toNat:Int)) xa;have za:ls.drop p=ls[p]::ls.drop (p+1):=Qo hp;have q:ws.drop (p+1)=ws[p+1]::ws.drop (p+1+1):=Qo j;have e1:IntKind.i64.wrap (1+(p:Int))=((p+1:Nat):Int):=Xh
  have e2:(0:Int)<=((p+1:Nat):Int):=O
  rw[za,q]at x;unfold FB at x;generalize ls[p]=c at *;generalize ws[p+1]=w at *;unfold HA at hR;generalize Ej b (c.toNat:Int) w=z at *;obtain⟨b',e⟩:=z;simp only at x hR u;obtain⟨ma,ia,ea⟩:=v;simp only at h2 h5 a h4 hm fa ca;by_cases he:e=0
  ·subst he;rw[if_neg (λh=>h rfl)]at x;simp only[↓C2,G9,simprocAttr,h2,h5,a,h4,hm,fa,i,AG la,AG l,Ab k,hR,BQ,BR,AO,AU,hp,ca,d,e1,e2,Qg,and_self,Qu,QX,Qp]
   (refine Au.intro (Am ?_) ?_;first|rfl|simp[AV,AF,Hu,Ai,Ac])
   simp only[↓C2,G9,simprocAttr,h2,h5,a,h4,hm,fa,BQ,BR,AO,AU];refine ih (p+1) _ _ _ O x u h2 h5 a h4 ?_ ?_ ?_
   ·show Ag ((ia.put [30] 1 [.it ls (p+(Utf8.decode ⟨ls.toArray⟩ p).2)]).put [13] 0 (Hw b')) [0] 0 11=_;rw[AG o,AG la];exact hm
   ·exact Az (AU _)
   ·show Ha.put (Ha.put ia [30] 1 [.it ls (p+(Utf8.decode ⟨ls.toArray⟩ p).2)]) [13] 0 (Hw b') [30] 1=_;rw[aA V,i];exact DG
  ·rw[if_pos he]at x;have y:(e=0)=False:=eq_false he;have hf:∀zs:List D,Cg zs []=some zs:=λ_=>rfl
   have zc:(D.agg [.int .u8 0,.str [],.str [],.str [],.int .i64 0,.int .i64 0,.bool false,.slice true [] [],.str [],.slice true [] [],.str []]).cells=Hw akZ:=rfl;simp only[↓C2,G9,simprocAttr,h2,h5,a,h4,hm,fa,i,AG la,AG l,AG o,Ab k,hR,BQ,BR,AO,AU,hp,ca,d,e1,e2,Qg,and_self,Qu,QX,Qp,y,hf,zc]
   (refine Au.intro (Am ?_) ?_;first|rfl|simp[AV,AF,Hu,Ai,Ac])
   simp only[↓C2,G9,simprocAttr,h2,h5,a,h4,hm,fa,AG la,AG l,AG o,BQ,BR,AO,AU,y,hf,zc,Qp,and_self];subst x;refine pa _ he rfl ?_ ?_ ?_
   ·rfl
   ·exact h2
   ·exact Az (ds:=Hw akZ) rfl
def aCf:∀op:Fin 19,∀c∈BH ((op.val:Nat):Int),c.toNat<128:=Xk
def aCd:∀op:Fin 19,(BH ((op.val:Nat):Int)).length<=10:=Xk
def aCe{op:Int}(f:0<=op)(h:op<=18):(∀c∈BH op,c.toNat<128)∧(BH op).length<=10:=by
 have e:((⟨op.toNat,O⟩:Fin 19).val:Int)=op:=Zb f;have u:=aCf ⟨op.toNat,O⟩;have y:=aCd ⟨op.toNat,O⟩;rw[e]at u y;exact⟨u,y⟩
def aDZ{op:Int}(f:0<=op)(h:op<=18):HJ {akZ with op:=op}:=⟨f,Xa,Qn _,Qn _,Qn _,Qn _,Qn _,Qn _,(λr j=>by cases j),Qn _⟩
def LT:=Ar [(42,Ac DS),(43,Ac aE4),(44,Ac yI),(45,Ac gH)]
def aFf:=RF LT aDp [.cell (some 11) 2,.t 3] 58
def aPu:Kq aFf 15:=Ap (Aj func15) (Aa aGV (Aa aPn (Aa oX (Aa aPm Ad))))
def gM(s:Bs)(hl:s.length<=1000000):aFf [.str s]=some (.tup [HA (EA s).1,.int .i64 (EA s).2]):=by
 refine Al (Qa rfl) ?_;have c:LT 45=some (Ac gH):=rfl;unfold aDp;have hz:D.cells (.agg (Hw akZ))=Hw akZ:=rfl;unfold EA HA;by_cases h4:400<s.length
 ·rw[if_pos h4];have n:((400:Int)<(s.length:Int))=True:=eq_true O;simp only[Hb,↓C2,G7,reduceIte,Qt,Qs,Zt,Q7,QP,reduceCtorEq,QB,Zd,Zu,Ze,n]
  all_goals exact Y6
 rw[if_neg h4];have n:((400:Int)<(s.length:Int))=False:=eq_false O;have i:=Oh (s:=s) (q:=32) O;have t:=Ga (q:=32) s;have za:=F9 (q:=32) s;have ya:=CI (q:=32) s;generalize splitC 32 s=ws at *;obtain⟨w0,wr,rfl⟩:∃a b,ws=a::b:=by cases ws with|nil=>exact absurd rfl t|cons a b=>exact⟨a,b,rfl⟩
 have hg:(w0::wr).getD 0 []=w0:=rfl;rw[hg];have d:=aE3 w0;obtain⟨b1,b2⟩:=aJ6 w0;have j:=PG b1 O;obtain⟨f1,f2⟩:=aCe b1 b2;have ka:(strsD (w0::wr))[(0:Int).toNat]?=some (.str w0):=rfl;have ca:((strsD (w0::wr)).length:Int)=((w0::wr).length:Int):=by rw[AT]
 have xa:∀w∈w0::wr,w.length<=400:=λw hw=>by have:=za w hw;omega
 generalize opF w0=op at *;by_cases f:op=0
 ·subst f;rw[if_pos rfl];simp only[Hb,↓C2,G7,reduceIte,Qt,Qs,Zt,Q7,QP,reduceCtorEq,QB,Zd,Zu,Ze,n,Ae LT 42,i,ka,Ae LT 43,d]
  all_goals exact Y6
 rw[if_neg f];have x:(op=0)=False:=eq_false f;have k:IntKind.i64.wrap (1+((BH op).length:Int))=((1+(BH op).length:Nat):Int):=Xh
 by_cases g:(w0::wr).length≠1+(BH op).length
 ·rw[if_pos g];have ja:(((w0::wr).length:Int)=((1+(BH op).length:Nat):Int))=False:=eq_false (λe=>g O);simp only[Hb,↓C2,G7,reduceIte,Qt,Qs,Zt,Q7,QP,reduceCtorEq,QB,Zd,Zu,Ze,n,Ae LT 42,i,ka,Ae LT 43,d,x,Ae LT 44,j,ca,k,ja]
  all_goals exact Y6
 rw[if_neg g];have g:=Decidable.not_not.1 g;have ja:(((w0::wr).length:Int)=((1+(BH op).length:Nat):Int))=True:=eq_true (by rw[g]);simp only[Hb,↓C2,G7,reduceIte,Qt,Qs,Zt,Q7,QP,reduceCtorEq,QB,Zd,Zu,Ze,n,Ae LT 42,i,ka,Ae LT 43,d,x,Ae LT 44,j,ca,k,ja];generalize hr:FB {akZ with op:=op} (BH op) ((w0::wr).drop 1)=r;refine aBq (r:=r) c f1 O xa g (λv u p h3 y hm=>?_) (λv u y h5 hm o=>?_) (BH op).length 0 {akZ with op:=op} _ _ O hr (aDZ b1 b2) rfl rfl rfl rfl ?_ ?_ ?_
 ·rw[p];simp only[↓C2,G9,simprocAttr,HU,AW,y,h3,hm,QS,BQ,BR]
  all_goals exact Y6
 ·rw[u];have z:∀(m:Ha)(a:Ak),Ag (m.put [0] 0 (Hw a)) [0] 0 11=some (Hw a):=λm a=>Az (AU a)
  simp only[↓C2,G9,simprocAttr,y,h5,hm,o,BQ,BR,AO,AU,Qp,and_self,HU,AW,z,QS]
  all_goals exact Y6
 ·simp (disch:=decide)only[AG];exact Az (ds:=Hw akZ) rfl
 ·simp (disch:=decide)only[AG];exact Az (ds:=Hw {akZ with op:=op}) rfl
 ·rfl
def Ud:=Ar [(87,Ac (R19 Sl SN)),(88,Ac Ui)]
def aE8:=RF Ud aDh [.cell (some 9) 4] 21
def aPp:Kq aE8 38:=Ap (Aj func38) (Aa (aW4 aSS aSR) (Aa aOC Ad))
def yC.trS{t:Tr}{room:Int}(h:yC t room):TrS t:=⟨by have:=h.len;rw[Tr.cnt_lst]at *;omega,λx q=>⟨Qc (h.key x q) V,Qc (h.val x q) V⟩⟩
def yC.cnt{t:Tr}{room:Int}(h:yC t room):t.cnt<=1945:=by have:=h.len;rw[Tr.cnt_lst]at *;exact this
def EI(o:Oc):(LZ o).length=9:=rfl
def Ut{m:Ha}{i j o:Nat}{x:List D}{n:Nat}(h:j≠i):Ag (m.put [i] 0 x) [j] o n=Ag m [j] o n:=AG (by simp[h])
def aBp{m:Md}(hm:Sk m){a:Ak}{dec:Kn->Oc}(X:HN m.vw a dec){R:Kn->Nat}(hR:∀k d,Ir k->(dec k).need≠[]->R (A3 k (dec k).need (dec k).li d)<R k){o:Oc}{Q:Ex->St->Prop}
  (pa:∀fa,Ag fa.m [2] 0 9=some (LZ o)->fa.s 4= .ptr [2] 0->Q .ret fa):
  ∀(f j:Nat)(k:Kn)(x:St) g,KnJ k j->j+f<=20->R k<=f->UE dec m.tr f k=o->4<=x.c->x.s 2= .ptr [0] 0->x.s 3= .ptr [1] 0->x.s 4= .ptr [2] 0->x.s 5= .ptr [3] 0->
   Ag x.m [0] 0 5=some (HH m.vw)->Ag x.m [0] 5 1=some [Hj m.tr]->Ag x.m [1] 0 11=some (Hw a)->(∃z,Ag x.m [2] 0 9=some z)->Ag x.m [3] 0 5=some (HG k)->Be Ud [] M9 Q x g:=by
 intro f;induction f with
 |zero=>
  intro j k x g hk hj hr ho hc w h3 h4 h5 m0 n m1 ⟨z,m2⟩ m3;have y:=hk.ok O;have hn:(dec k).need=[]:=by
   by_cases hn:(dec k).need=[]
   ·exact hn
   ·have:=hR k (Fa m.tr []) y hn;omega
  have ha:=X.run k y;have u:Ud 87=some (Ac (R19 Sl SN)):=rfl;have p:Ud 88=some (Ac Ui):=rfl;unfold HZ HA at ha;refine Af M9.eq_1 ?_;obtain⟨ma,ia,ea⟩:=x;simp only at hc w h3 h4 h5 m0 n m1 m2 m3;have zc:(D.agg (LZ (dec k))).cells=LZ (dec k):=rfl;have zu:(D.agg (LZ (dec k))).un1=D.agg (LZ (dec k)):=rfl;have zn:(D.agg (LZ (dec k))).un=D.agg (LZ (dec k)):=rfl;have zd:(D.agg (LZ (dec k))).data=true:=rfl;have zm:(D.agg (LZ (dec k))).calm=true:=rfl;have z9:∀{m:Ha} {i:Id} {a b c d e f g h j:D},Ag (m.put i 0 [a,b,c,d,e,f,g,h,j]) i 0 9=some [a,b,c,d,e,f,g,h,j]:=Az rfl;have zo:∀{m:Ha} {i:Id},Ag (m.put i 0 (LZ (dec k))) i 0 9=some (LZ (dec k)):=Az (EI _);have z0:∀{m:Ha} {i:Id},m.put i 0 (LZ (dec k)) i 0=some (.str (dec k).need):=Bb (k:=0) (Az (EI _)) rfl;simp only[HH,HG]at ha m0 m3;unfold UE at ho;have ja:((dec k).need=[])=True:=eq_true hn;simp (disch:=first|assumption|omega)only[↓C2,G9,simprocAttr,w,h3,h4,h5,m0,n,m1,m2,m3,Ab u,ha,zc,ja,BQ,BR,AO,AU,EI,z9,zo,z0,Ut,Qp,and_self,zu,zd,zm,zn];subst ho;exact pa _ (Az (EI _)) h4
 |succ f ih=>
  intro j k x g hk hj hr ho hc w h3 h4 h5 m0 n m1 ⟨z,m2⟩ m3;have y:=hk.ok O;have ha:=X.run k y;have u:Ud 87=some (Ac (R19 Sl SN)):=rfl;have p:Ud 88=some (Ac Ui):=rfl;unfold HZ HA at ha;refine Af M9.eq_1 ?_;obtain⟨ma,ia,ea⟩:=x;simp only at hc w h3 h4 h5 m0 n m1 m2 m3;have zc:(D.agg (LZ (dec k))).cells=LZ (dec k):=rfl;have zu:(D.agg (LZ (dec k))).un1=D.agg (LZ (dec k)):=rfl;have zn:(D.agg (LZ (dec k))).un=D.agg (LZ (dec k)):=rfl;have zd:(D.agg (LZ (dec k))).data=true:=rfl;have zm:(D.agg (LZ (dec k))).calm=true:=rfl;have z9:∀{m:Ha} {i:Id} {a b c d e f g h j:D},Ag (m.put i 0 [a,b,c,d,e,f,g,h,j]) i 0 9=some [a,b,c,d,e,f,g,h,j]:=Az rfl;have zo:∀{m:Ha} {i:Id},Ag (m.put i 0 (LZ (dec k))) i 0 9=some (LZ (dec k)):=Az (EI _);have z0:∀{m:Ha} {i:Id},m.put i 0 (LZ (dec k)) i 0=some (.str (dec k).need):=Bb (k:=0) (Az (EI _)) rfl;simp only[HH,HG]at ha m0 m3;unfold UE at ho;by_cases hn:(dec k).need=[]
  ·rw[if_pos hn]at ho;have ja:((dec k).need=[])=True:=eq_true hn;simp (disch:=first|assumption|omega)only[↓C2,G9,simprocAttr,w,h3,h4,h5,m0,n,m1,m2,m3,Ab u,ha,zc,ja,BQ,BR,AO,AU,EI,z9,zo,z0,Ut,Qp,and_self,zu,zd,zm,zn];subst ho;exact pa _ (Az (EI _)) h4
  ·rw[if_neg hn]at ho;have ja:((dec k).need=[])=False:=eq_false hn;have v:=hR k (Fa m.tr (dec k).need) y hn;have da:=hk.learn hm.tr (dec k).need (dec k).li;have l:=aFl (k:=k) (q:=(dec k).need) (li:=(dec k).li) (r:=[.str (dec k).rep,.slice (dec k).nl [] (El (dec k).ops)]++HH (dec k).vw) (t:=m.tr) ⟨Qc y.es V,Qc y.ls V,rfl,hm.tr.trS,Qc (nP _ _) (Qc hm.tr.len V)⟩;generalize A3 k (dec k).need (dec k).li (Fa m.tr (dec k).need)=k' at ho v da l;have l:Ui [.agg (HG k),.agg (LZ (dec k)),.agg [Hj m.tr]]=some (.agg (HG k')):=l;simp only[HG]at l;have z5:∀{m:Ha} {i:Id} {a b c d e:D},Ag (m.put i 0 [a,b,c,d,e]) i 0 5=some [a,b,c,d,e]:=Az rfl;simp (disch:=first|assumption|omega)only[↓C2,G9,simprocAttr,w,h3,h4,h5,m0,n,m1,m2,m3,Ab u,ha,zc,ja,BQ,BR,AO,AU,EI,z9,zo,z0,Ut,Qp,and_self,zu,zd,zm,zn,Ab p,l,Hm,z5];refine ih (j+1) k' _ _ da O O ho Xa w h3 h4 h5 ?_ ?_ ?_ ⟨z,?_⟩ ?_
   ·simp (disch:=omega)only[Ut];exact m0
   ·simp (disch:=omega)only[Ut];exact n
   ·simp (disch:=omega)only[Ut];exact m1
   ·simp (disch:=omega)only[Ut];exact m2
   ·exact Az rfl
def aE7{m:Md}(j:Sk m){a:Ak}{dec:Kn->Oc}(X:HN m.vw a dec):aE8 [.agg (Hn m),HA a]=some (.agg (LZ (FT dec m))):=by
 refine Al (Qa rfl) ?_;unfold aDh;unfold Hn HA;have u:D.cells (.agg (Hn m))=Hn m:=rfl;obtain⟨R,i,x⟩:=X.term;simp only[Hb,↓C2,G7,simprocAttr,u];refine aBp j X x (o:=FT dec m) (λr k y=>?_) 4 0 kn0 _ _ aKK V (Qc (i _) V) rfl (Qf _) rfl rfl rfl rfl ?_ ?_ ?_ ⟨[.str [],.bool false,.str [],.slice true [] [],.bool false,.int .i64 0,.str [],.slice true [] [],.slice true [] []],?_⟩ ?_
 ·simp only[↓C2,G9,simprocAttr,Bx,AW,y,k,QS]
  all_goals exact Y6
 ·simp (disch:=decide)only[AG];exact iW (cs:=Hn m) (n:=7) (Az rfl) V
 ·simp (disch:=decide)only[AG];exact iW (cs:=Hn m) (n:=7) (Az rfl) V
 ·simp (disch:=decide)only[AG];exact Az (AU a)
 ·simp (disch:=decide)only[AG];exact Az rfl
 ·exact Az rfl
def Du:G8:=Ar [(15,Ac aFf),(37,Ac aJe),(38,Ac aE8),(39,Ac aE6),(35,Ac Uj)]
def DW:List D->Option D:=RF Du RN [.cell (some 7) 4,.t 5] 53
def aBM:Kq DW 11:=Ap (Aj func11:Fn QC 11 53 RN [.cell (some 7) 4,.t 5]) (Aa aPu (Aa aKJ (Aa aPp (Aa aPo (Aa UX Ad)))))
def aJg{m:Md}(h:m.room=0)(s:Bs):DW [.agg (Hn m),.str s]=some (.tup [.agg (Hn m),.str []]):=by
 refine Al (Qa rfl) ?_;unfold RN;have f:(m.room=0)=True:=eq_true h;simp only[Hn,HH,Qe,Qd];simp (disch:=first|assumption|omega)only[Hb,↓C2,G7,simprocAttr,Hm,f]
 all_goals exact Y6
def sH{m:Md}(h:m.room≠0){s:Bs}{e:Int}(hl:s.length<=1000000)(r:(EA s).2=e)(d:1<=e∧e<=99):DW [.agg (Hn m),.str s]=some (.tup [.agg (Hn m),.str (Is (.fail e))]):=by
 refine Al (Qa rfl) ?_;unfold RN;have f:(m.room=0)=False:=eq_false h;have k:=gM s hl;rw[r]at k;have b:=V1 e d;have z:(e=0)=False:=eq_false O;unfold HA at k;generalize (EA s).1=a at k;have q:D.cells (.agg (Hw a))=Hw a:=rfl;have v:∀{m:Ha} {i:Id},Ag (m.put i 0 (Hw a)) i 0 11=some (Hw a):=Az (AU a);have c:∀{m:Ha} {i:Id} {xs:List D},xs.length=11->(Ag (m.put i 0 xs) i 0 11).isSome=true:=λh=>by rw[Hx h];rfl
 simp only[Hn,HH,Qe,Qd];simp (disch:=first|assumption|omega)only[Hb,↓C2,G7,simprocAttr,Hm,f,Ae Du 15,k,q,BQ,BR,AO,AU,z,Ae Du 37,b]
 (refine Au.intro (Am ?_) ?_;first|rfl|simp[AV,AF,Hu,Ai,Ac])
 simp (disch:=first|assumption|omega)only[Hb,↓C2,G7,simprocAttr,Hm,f,Ae Du 15,k,q,BQ,BR,AO,AU,z,Ae Du 37,b]
 all_goals exact Y6
def oQ:∀(l:List Op1){t:Tr},Tr.Ord t.lst->(BK l t).cnt<=l.length+t.cnt
 |[],t,_=>by simp[BK]
 |x::r,t,h=>by
  have u:=(bU x h).1;have y:=oQ r (DI x h).1;simp only[BK,Qk];omega
def WH:∀l:List (Bs×Bs),(∀x∈l,x.1.length<=100∧x.2.length<=400)->Tr.sizeL l<=504*l.length
 |[],_=>by simp[Tr.sizeL]
 |x::l,h=>by
  have u:=h x Qj;have:=WH l λy o=>h y (Qh _ o)
  simp only[Tr.sizeL,QH,ZB,Qk]at this ⊢;omega
def TE{v:Vw}{a:Ak}{o:Oc}(h:Lb v a o):H6 o.ops:=by
 obtain⟨y,_,_,_,⟨_,e,_⟩|⟨_,⟨_,e,_⟩|⟨_,_,e,_⟩⟩⟩:=h
 ·rw[e];exact⟨U,λx q=>XG⟩
 ·rw[e];exact⟨U,λx q=>XG⟩
 ·exact e
def aGe{t:Tr}{room:Int}(h:yC t room){l:List Op1}(hl:H6 l):TrS (BK l t):=by
 obtain⟨u,y⟩:=MF l h.ord;have i:=oQ l h.ord;have p:=h.cnt;have m:=hl.n;refine⟨O,λx q=>?_⟩;rcases y x q with h6|⟨z,j,_,rfl⟩
 ·exact⟨Qc (h.key x h6) V,Qc (h.val x h6) V⟩
 ·exact⟨Qc (hl.ok z j).1.1 V,Qc (hl.ok z j).1.2.1 V⟩
def PI{m:Md}(h:m.room≠0){s:Bs}(hl:s.length<=1000000){a:Ak}(r:EA s=(a,0)){dec:Kn->Oc}(j:Sk m)(X:HN m.vw a dec):DW [.agg (Hn m),.str s]=some (.tup [.agg (Hn (CO m (FT dec m)).1),.str (CO m (FT dec m)).2]):=by
 refine Al (Qa rfl) ?_;unfold RN;have h0:(m.room=0)=False:=eq_false h;have c:=gM s hl;rw[r]at c;have y:=aE7 j X;obtain⟨g,k,t,i⟩:=NJ j X;have v:H6 (FT dec m).ops:=TE (by rw[i];exact X.rep k t (by rw[←i];exact g));have hT:=aGe j.tr v;have la:=Lc hT;have f:=aE5 m.tr (FT dec m).nl (FT dec m).ops (Qc v.n V) (λx w=>⟨(v.ok x w).1.1,(v.ok x w).1.2.1⟩) j.tr.ord (by have:=j.tr.cnt;have:=v.n;omega) (by
  have u:=WH m.tr.lst λx w=>⟨j.tr.key x w,j.tr.val x w⟩
  rw[←Tr.wgt_lst]at u;have:=j.tr.len;have:=v.n;omega)
 have b:=V1 7 V;generalize FT dec m=o at *;have q:(El o.ops).length=o.ops.length:=Qq ..;unfold CO;generalize BK o.ops m.tr=T at *;unfold HA at c y;simp only[Hn,HH,LZ,Hw,Qe,Qd]at c y ⊢;by_cases z:o.ops=[]
 ·rw[if_neg (λh=>h.1 z)];have c1:((0:Int)<(o.ops.length:Int))=False:=by rw[z];simp
  repeat' (first|(refine Au.intro (Am ?_) ?_;first|rfl|simp[AV,AF,Hu,Ai,Ac])|simp (disch:=first|assumption|omega)only[Hb,↓C2,G7,simprocAttr,Hm,h0,Ae Du 15,c,Ae Du 38,y,Ae Du 39,f,Ae Du 35,la,Ae Du 37,b,q,c1])
 ·have c1:((0:Int)<(o.ops.length:Int))=True:=eq_true (by have:o.ops.length≠0:=λe=>z (Q5.1 e);omega);by_cases hw:m.room<(Tr.weighL T.lst:Int)
  ·rw[if_pos ⟨z,hw⟩];have p:(m.room<(Tr.weighL T.lst:Int))=True:=eq_true hw
   repeat' (first|(refine Au.intro (Am ?_) ?_;first|rfl|simp[AV,AF,Hu,Ai,Ac])|simp (disch:=first|assumption|omega)only[Hb,↓C2,G7,simprocAttr,Hm,h0,Ae Du 15,c,Ae Du 38,y,Ae Du 39,f,Ae Du 35,la,Ae Du 37,b,q,c1,p])
  ·rw[if_neg (λh=>hw h.2)];have p:(m.room<(Tr.weighL T.lst:Int))=False:=eq_false hw
   repeat' (first|(refine Au.intro (Am ?_) ?_;first|rfl|simp[AV,AF,Hu,Ai,Ac])|simp (disch:=first|assumption|omega)only[Hb,↓C2,G7,simprocAttr,Hm,h0,Ae Du 15,c,Ae Du 38,y,Ae Du 39,f,Ae Du 35,la,Ae Du 37,b,q,c1,p])
def aXp:=Ar []
def aQG:=RF aXp qF [.t 4] 26
def aTJ:Kq aQG 197:=Ap aKU Ad
def pG{S:G8}{l:List Rl}{nl nl':Bool}{Q:Ex->St->Prop}(hl:l.length<=1000000)(z:∀r,Q (.exit 0) r):
  ∀(f j:Nat)(v:St) g,l.length=j+f->v.s 0= .slice nl [] (As l)->v.s 1= .slice nl' [] (As l)->v.s 12= .int .i64 (l.length:Int)->v.s 13= .int .i64 (j:Int)->Be S [] MV Q v g
 |0,j,v,g,hf,h0,h1,h12,h13=>by
  refine Af MV.eq_1 ?_;have u:((j:Int)<l.length)=False:=eq_false O;simp only[Hb,↓C2,G7,simprocAttr,h12,h13,u];exact z _
 |f+1,j,v,g,hf,h0,h1,h12,h13=>by
  have ih:=pG (S:=S) (nl:=nl) (nl':=nl') hl z f (j+1);refine Af MV.eq_1 ?_;have u:((j:Int)<l.length)=True:=eq_true O;have b:j<l.length:=O
  have q:(As l)[j]?=some (rlD l[j]):=by unfold As;rw[QF,Qi b];rfl
  unfold rlD at q;generalize l[j]=x at q;obtain⟨m,o,k⟩:=v;simp only at h0 h1 h12 h13;have i:=nJ (j:=j);have n:IntKind.i64.wrap ((j:Int)+1)=((j+1:Nat):Int):=Hy O O
  repeat' (first|(refine Au.intro (Am ?_) ?_;first|rfl|simp[AV,AF,Hu,Ai,Ac])|simp only[Hb,↓C2,G7,simprocAttr,h0,h1,h12,h13,u,i,Qg,q,n,PT,Bi,L3,Qu,QX,beq_self_eq_true,bne_self_eq_false])
  exact ih _ _ O h0 h1 h12 rfl
def aIt(nl nl':Bool)(l:List Rl)(hl:l.length<=1000000):aQG [.slice nl [] (As l),.slice nl' [] (As l)]=some (.bool true):=by
 refine Al (Qa rfl) ?_;unfold qF;have v:=A2 l;simp only[Hb,↓C2,G7,simprocAttr,v,bne_self_eq_false];refine pG (nl:=nl) (nl':=nl') hl (λr=>?_) l.length 0 _ _ O rfl rfl rfl rfl;simp only[Hb,↓C2,G7,simprocAttr]
 all_goals exact Y6
def aVT:=Ar []
def aEV:=RF aVT aC8 [.t 4] 26
def aPe:Kq aEV 75:=Ap (Aj func75) Ad
def cO{S:G8}{l:List Mt}{nl nl':Bool}{Q:Ex->St->Prop}(hl:l.length<=1000000)(z:∀r,Q (.exit 0) r):
  ∀(f j:Nat)(v:St) g,l.length=j+f->v.s 0= .slice nl [] (AB l)->v.s 1= .slice nl' [] (AB l)->v.s 12= .int .i64 (l.length:Int)->v.s 13= .int .i64 (j:Int)->Be S [] M0 Q v g
 |0,j,v,g,hf,h0,h1,h12,h13=>by
  refine Af M0.eq_1 ?_;have u:((j:Int)<l.length)=False:=eq_false O;simp only[Hb,↓C2,G7,simprocAttr,h12,h13,u];exact z _
 |f+1,j,v,g,hf,h0,h1,h12,h13=>by
  have ih:=cO (S:=S) (nl:=nl) (nl':=nl') hl z f (j+1);refine Af M0.eq_1 ?_;have u:((j:Int)<l.length)=True:=eq_true O;have b:j<l.length:=O
  have q:(AB l)[j]?=some (ML l[j]):=by unfold AB;rw[QF,Qi b];rfl
  unfold ML at q;generalize l[j]=x at q;obtain⟨m,o,k⟩:=v;simp only at h0 h1 h12 h13;have i:=nJ (j:=j);have n:IntKind.i64.wrap ((j:Int)+1)=((j+1:Nat):Int):=Hy O O
  repeat' (first|(refine Au.intro (Am ?_) ?_;first|rfl|simp[AV,AF,Hu,Ai,Ac])|simp only[Hb,↓C2,G7,simprocAttr,h0,h1,h12,h13,u,i,Qg,q,n,PT,Bi,L3,Qu,QX,beq_self_eq_true,bne_self_eq_false])
  exact ih _ _ O h0 h1 h12 rfl
def aEU(nl nl':Bool)(l:List Mt)(hl:l.length<=1000000):aEV [.slice nl [] (AB l),.slice nl' [] (AB l)]=some (.bool true):=by
 refine Al (Qa rfl) ?_;unfold aC8;have v:=AY l;simp only[Hb,↓C2,G7,simprocAttr,v,bne_self_eq_false];refine cO (nl:=nl) (nl':=nl') hl (λr=>?_) l.length 0 _ _ O rfl rfl rfl rfl;simp only[Hb,↓C2,G7,simprocAttr]
 all_goals exact Y6
def aVC:=Ar [(197,Ac aQG)]
def aQU:=RF aVC qI [.t 4] 8
def aT1:Kq aQU 132:=Ap aKY (Aa aTJ Ad)
def aIM(nl nl':Bool)(l:List Rl)(hl:l.length<=1000000):aQU [.slice nl [] (As l),.slice nl' [] (As l)]=some (.bool true):=by
 refine Al (Qa rfl) ?_;unfold qI;have a:=aIt nl nl' l hl;simp only[Hb,↓C2,G7,simprocAttr,Ae aVC 197,a]
 all_goals exact Y6
def aNm:=Ar [(132,Ac aQU)]
def gF:=RF aNm aC6 [.t 4] 24
def aPc:Kq gF 77:=Ap (Aj func77) (Aa aT1 Ad)
def aER(k:Tk)(hl:k.2.2.2.length<=1000000):gF [PP k,PP k]=some (.bool true):=by
 refine Al (Qa rfl) ?_;unfold aC6;have b:=aIM k.2.2.1 k.2.2.1 k.2.2.2 hl;unfold PP;simp only[Hb,↓C2,G7,simprocAttr,Ae aNm 132,b,beq_self_eq_true]
 all_goals exact Y6
def aNu:=Ar [(75,Ac aEV)]
def aFc:=RF aNu aDk [.t 4] 10
def aPr:Kq aFc 32:=Ap (Aj func32) (Aa aPe Ad)
def aFb(nl nl':Bool)(l:List Mt)(hl:l.length<=1000000):aFc [.agg [.slice nl [] (AB l)],.agg [.slice nl' [] (AB l)]]=some (.bool true):=by
 refine Al (Qa rfl) ?_;unfold aDk;have a:=aEU nl nl' l hl;simp only[Hb,↓C2,G7,simprocAttr,Ae aNu 75,a]
 all_goals exact Y6
def aNn:=Ar [(77,Ac gF)]
def aET:=RF aNn aC7 [.t 6] 32
def aPd:Kq aET 76:=Ap (Aj func76) (Aa aPc Ad)
def cN{S:G8}(e:S 77=some (Ac gF)){l:List Tk}{nl nl':Bool}{Q:Ex->St->Prop}(hl:l.length<=1000000)(y:∀k∈l,k.2.2.2.length<=1000000)(w:∀r,Q (.exit 0) r):
  ∀(f j:Nat)(v:St) g,l.length=j+f->v.s 1= .slice nl' [] (AJ l)->v.s 15= .slice nl [] (AJ l)->v.s 2= .fn 77 []->v.s 16= .int .i64 (l.length:Int)->v.s 17= .int .i64 (j:Int)->Be S [] M_ Q v g
 |0,j,v,g,hf,h1,h15,h2,h16,h17=>by
  refine Af M_.eq_1 ?_;have u:((j:Int)<l.length)=False:=eq_false O;simp only[Hb,↓C2,G7,simprocAttr,h16,h17,u];exact w _
 |f+1,j,v,g,hf,h1,h15,h2,h16,h17=>by
  have ih:=cN e (nl:=nl) (nl':=nl') hl y w f (j+1);refine Af M_.eq_1 ?_;have u:((j:Int)<l.length)=True:=eq_true O;have p:j<l.length:=O
  have q:(AJ l)[j]?=some (PP l[j]):=by unfold AJ;rw[QF,Qi p];rfl
  have d:=aER l[j] (y _ (QQ p));unfold PP at q d;generalize l[j]=x at q d;obtain⟨t,o,ea⟩:=v;simp only at h1 h15 h2 h16 h17;have z:=nJ (j:=j);have sa:IntKind.i64.wrap ((j:Int)+1)=((j+1:Nat):Int):=Hy O O;have z3:∀{m:Ha} {i:Id} {a b c:D},Ag (m.put i 0 [a,b,c]) i 0 3=some [a,b,c]:=Az rfl;have zz:∀{m:Ha} {i j:Nat} {x:List D} {n:Nat},j≠i->Ag (m.put [i] 0 x) [j] 0 n=Ag m [j] 0 n:=λh=>AG (by simp[h])
  simp (disch:=first|assumption|omega)only[↓C2,G9,simprocAttr,h1,h15,h2,h16,h17,u,z,Qg,q,sa,z3,zz,Ab e,d,Qp,and_self,Zy,List.take_zero];exact ih _ _ O h1 h15 h2 h16 rfl
def aES(nl nl':Bool)(l:List Tk)(hl:l.length<=1000000)(s:∀k∈l,k.2.2.2.length<=1000000):aET [.slice nl [] (AJ l),.slice nl' [] (AJ l),.fn 77 []]=some (.bool true):=by
 refine Al (Qa rfl) ?_;have a:aNn 77=some (Ac gF):=rfl;unfold aC7;have v:(AJ l).length=l.length:=Qq ..;simp only[Hb,↓C2,G7,simprocAttr,v,bne_self_eq_false];refine cN a (nl:=nl) (nl':=nl') hl s (λr=>?_) l.length 0 _ _ O rfl rfl rfl rfl rfl;simp only[Hb,↓C2,G7,simprocAttr]
 all_goals exact Y6
def aNt:=Ar [(76,Ac aET)]
def aFa:=RF aNt aDj [.t 4] 10
def aPq:Kq aFa 33:=Ap (Aj func33) (Aa aPd Ad)
def aE9(nl nl':Bool)(l:List Tk)(hl:l.length<=1000000)(s:∀k∈l,k.2.2.2.length<=1000000):aFa [.agg [.slice nl [] (AJ l)],.agg [.slice nl' [] (AJ l)]]=some (.bool true):=by
 refine Al (Qa rfl) ?_;unfold aDj;have a:=aES nl nl' l hl s;simp only[Hb,↓C2,G7,simprocAttr,Ae aNt 76,a]
 all_goals exact Y6
def aEn:=Ar [(32,Ac aFc),(33,Ac aFa)]
def aE1:=RF aEn aDd [.t 4] 38
def aPl:Kq aE1 46:=Ap (Aj func46) (Aa aPr (Aa aPq Ad))
def gG(v:Vw)(j:v.ms.length<=1000000)(hl:v.ks.length<=1000000)(s:∀k∈v.ks,k.2.2.2.length<=1000000):aE1 [HZ v,HZ v]=some (.bool true):=by
 refine Al (Qa rfl) ?_;unfold aDd;have b:=aFb v.nlm v.nlm v.ms j;have z:=aE9 v.nlt v.nlt v.ks hl s;simp only[HZ,HH];simp only[Hb,↓C2,G7,simprocAttr,Ae aEn 32,b,Ae aEn 33,z,beq_self_eq_true]
 all_goals exact Y6
def fY:=Ar [(46,Ac aE1),(47,Ac sJ)]
def Si:=RF fY lO [.t 4] 24
def aPt:Kq Si 16:=Ap (Aj func16) (Aa aPl (Aa aOD Ad))
def sE(m:Md)(j:m.vw.ms.length<=1000000)(hl:m.vw.ks.length<=1000000)(s:∀k∈m.vw.ks,k.2.2.2.length<=1000000)(g:Tr.Ord m.tr.lst)(z:m.tr.cnt<=400000):Si [.agg (Hn m),.agg (Hn m)]=some (.bool true):=by
 refine Al (Qa rfl) ?_;unfold lO;have a:=gG m.vw j hl s;have b:=aJl g z;simp only[Hn,HZ,HH,Qe,Qd]at a ⊢;simp (disch:=first|assumption|omega)only[Hb,↓C2,G7,simprocAttr,Hm,Ae fY 46,a,Ae fY 47,b,beq_self_eq_true]
 all_goals exact Y6
def aJf(m o:Md)(r:m.vw=o.vw)(j:m.room=o.room)(n:m.vw.ms.length<=1000000)(hl:m.vw.ks.length<=1000000)(s:∀k∈m.vw.ks,k.2.2.2.length<=1000000)(z:m.tr.cnt≠o.tr.cnt):Si [.agg (Hn m),.agg (Hn o)]=some (.bool false):=by
 refine Al (Qa rfl) ?_;unfold lO;have a:=gG m.vw n hl s;have b:=aJm z;obtain⟨y,q,w⟩:=m;obtain⟨u,g,c⟩:=o;simp only at r j a b;subst r j;simp only[Hn,HZ,HH,Qe,Qd]at a ⊢;simp (disch:=first|assumption|omega)only[Hb,↓C2,G7,simprocAttr,Hm,Ae fY 46,a,Ae fY 47,b,beq_self_eq_true]
 all_goals exact Y6
def aNw:=Ar [(35,Ac Uj)]
def aFe:=RF aNw aDo [.t 2] 9
def aBK:Kq aFe 17:=Ap (Aj func17) (Aa UX Ad)
def gL(m:Md)(j:m.room≠0)(p:TrS m.tr):aFe [.agg (Hn m)]=some (.int .i64 ((Tr.weighL m.tr.lst:Nat):Int)):=by
 refine Al (Qa rfl) ?_;unfold aDo;have w:=Lc p;have f:(m.room=0)=False:=eq_false j;simp only[Hn,HH,Qe,Qd];simp (disch:=first|assumption|omega)only[Hb,↓C2,G7,simprocAttr,Hm,Ae aNw 35,w,f]
 all_goals exact Y6
def aVV:=Ar []
def sD:=RF aVV aDn [.t 2] 5
def aBJ:Kq sD 18:=Ap (Aj func18) Ad
def gK(m:Md):sD [.agg (Hn m)]=some (.int .i64 m.room):=by
 refine Al (Qa rfl) ?_;unfold aDn;simp only[Hn,HH,Qe,Qd];simp (disch:=first|assumption|omega)only[Hb,↓C2,G7,simprocAttr,Hm]
 all_goals exact Y6
def aNo:=Ar [(26,Ac yH)]
def Uf:=RF aNo aC9 [.t 4] 15
def aPf:Kq Uf 71:=Ap (Aj func71) (Aa aBy Ad)
def Sf(k:Int)(name:Bs)(hl:name.length<=1000000):Uf [.int .u8 k,.str name]=some (.str (An k name 0)):=by
 refine Al (Qa rfl) ?_;unfold aC9;have a:=V_ k 0 name hl;simp only[Hb,↓C2,G7,simprocAttr,Ae aNo 26,a]
 all_goals exact Y6
def oG:Bs:=[114,111,111,116]
def MA:Bs:=[115,47,114,105,110,103]
def P5:Bs:=[115,47,109,111,117,110,116,115]
def WT:Bs:=[116,47,114,111,111,116]
def WS:Bs:=B9 [[],CC (BV [([],63)])]
def Mz:Bs:=List.replicate 17 0
def firstE:Tr:=((Tr.nil.put MA Mz).put P5 []).put WT WS
def Nr:=Ar [(80,Ac F48),(81,Ac F35),(82,Ac yJ),(84,Ac RP),(85,Ac aEy),(86,Ac zB),(71,Ac Uf),(83,Ac sA)]
def sB:=RF Nr aDi [.cell (some 1) 0] 30
def aBH:Kq sB 36:=Ap (Aj func36) (Aa aSa (Aa aSe (Aa aKE (Aa aKH (Aa aKG (Aa aAY (Aa aPf (Aa aBG Ad))))))))
def Sg:sB []=some (.agg [Hj firstE]):=by
 refine Al (Qa rfl) ?_;unfold aDi;have f:F48 []=some (.agg [.slice false [] (AJ [CD])]):=rfl;have w:F35 [.agg [.slice false [] (AJ [CD])],.str [114,111,111,116]]=some (.tup [PP CD,.bool true]):=aFs V (λk s=>by rw[Qb.1 s];exact⟨V,λh=>Xc⟩);have w:=(w:F35 _=_);unfold PP CD at w;have g:yJ [PP CD]=some (.tup [.str WS,.int .i64 0]):=rT [114,111,111,116] [] false [([],63)] (CC (BV [([],63)])) (Cw [([],63)]) (by rw[We V (λr j=>by rw[Qb.1 j];decide) V V];rfl) (by rw[Wc V (λr j=>by rw[Qb.1 j];decide)];rfl) V Xk;unfold PP CD at g;have d:aEy [.int .i64 1]=some (.int .i64 17):=rU 1;have a:RP [.str [0],.int .i64 17]=some (.str Mz):=rfl;have b:zB [.agg [.slice true [] (AB [])]]=some (.str []):=Wd ⟨V,λm n=>by cases n⟩;have x:Uf [.int .u8 5,.str []]=some (.str MA):=Sf 5 [] V;have c:Uf [.int .u8 4,.str []]=some (.str P5):=Sf 4 [] V;have q:Uf [.int .u8 3,.str [114,111,111,116]]=some (.str WT):=Sf 3 [114,111,111,116] V;have e:=Nt Tr.nil MA Mz V V;have o:=Nt (Tr.nil.put MA Mz) P5 [] V V;have u:=Nt ((Tr.nil.put MA Mz).put P5 []) WT WS V Xk;rw[Lh]at e;unfold firstE;generalize (((Tr.nil.put MA Mz).put P5 []).put WT WS)=y at *;generalize ((Tr.nil.put MA Mz).put P5 [])=t at *;generalize (Tr.nil.put MA Mz)=z at *;simp only[AJ,PP,CD,AB,QH,Zc]at f w b
 repeat' (first|(refine Au.intro (Am ?_) ?_;first|rfl|simp[AV,AF,Hu,Ai,Ac])|simp (disch:=first|assumption|omega)only[Hb,↓C2,G7,simprocAttr,Hm,Ae Nr 80,f,Ae Nr 81,w,Ae Nr 82,g,Ae Nr 85,d,Ae Nr 84,a,Ae Nr 86,b,Ae Nr 71,x,c,q,Ae Nr 83,e,o,u])
def Vi:Tr.weighL firstE.lst<=300:=Xk
def aCj:21<=Tr.weighL firstE.lst:=Xk
def TL:Tr.Ord firstE.lst:=by
 have f:Tr.Ord Tr.nil.lst:=List.Pairwise.nil;have u:=(DI (1,MA,Mz) f).1;have y:=(DI (1,P5,[]) u).1;exact(DI (1,WT,WS) y).1
def dQ:∀x∈firstE.lst,x.1.length<=100∧x.2.length<=400:=Xk
def pY{room:Int}(h:300<=room)(y:room<=70000):yC firstE room:=⟨TL,λx q=>(dQ x q).1,λx q=>(dQ x q).2,by have:=Vi;omega,y⟩
def Pg:TrS firstE:=(pY (room:=300) (Q4 _) V).trS
def zF:Md:=⟨⟨false,0,[],true,[],true,[]⟩,.nil,0⟩
def OA(z:Bs)(room:Int):Md:=⟨aHu z false,firstE,room⟩
def Ue:=Ar [(36,Ac sB),(35,Ac Uj),(78,Ac F23)]
def Nu:=RF Ue VG [.cell (some 7) 4,.t 5] 26
def aBI:Kq Nu 34:=Ap (Aj func34) (Aa aBH (Aa UX (Aa aWE Ad)))
def gI(z:Bs)(room:Int)(s:z.length=16)(j:room<=1048576)(f:(Tr.weighL firstE.lst:Int)<=room):Nu [.str z,.int .i64 room]=some (.tup [.agg (Hn (OA z room)),.int .i64 0]):=by
 refine Al (Qa rfl) ?_;unfold VG;have w:=Lc Pg;have d:=Sg;have x:F23 [.str z]=some (HZ (aHu z false)):=rfl;have c1:((z.length:Int)=16)=True:=eq_true O;have n:((1048576:Int)<room)=False:=eq_false O;have o:(room<(Tr.weighL firstE.lst:Int))=False:=eq_false O;simp only[OA,Hn,HZ,HH,Qe,Qd]at x ⊢;generalize firstE=t at *
 repeat' (first|(refine Au.intro (Am ?_) ?_;first|rfl|simp[AV,AF,Hu,Ai,Ac])|simp (disch:=first|assumption|omega)only[Hb,↓C2,G7,simprocAttr,Hm,Ae Ue 36,d,Ae Ue 35,w,Ae Ue 78,x,c1,n,o,bne_self_eq_false])
def yM(z:Bs)(room:Int)(s:z.length≠16):Nu [.str z,.int .i64 room]=some (.tup [.agg (Hn zF),.int .i64 2]):=by
 refine Al (Qa rfl) ?_;unfold VG;have c1:((z.length:Int)=16)=False:=eq_false O;simp only[zF,Hn,HH,Qe,Qd,Lh]
 repeat' (first|(refine Au.intro (Am ?_) ?_;first|rfl|simp[AV,AF,Hu,Ai,Ac])|simp (disch:=first|assumption|omega)only[Hb,↓C2,G7,simprocAttr,Hm,c1])
 all_goals exact Y6
def mY(z:Bs)(room:Int)(s:z.length=16)(j:room<=1048576)(f:room<(Tr.weighL firstE.lst:Int)):Nu [.str z,.int .i64 room]=some (.tup [.agg (Hn zF),.int .i64 7]):=by
 refine Al (Qa rfl) ?_;unfold VG;have w:=Lc Pg;have d:=Sg;have c1:((z.length:Int)=16)=True:=eq_true O;have n:((1048576:Int)<room)=False:=eq_false O;have o:(room<(Tr.weighL firstE.lst:Int))=True:=eq_true O;simp only[zF,Hn,HH,Qe,Qd,Lh];generalize firstE=t at *
 repeat' (first|(refine Au.intro (Am ?_) ?_;first|rfl|simp[AV,AF,Hu,Ai,Ac])|simp (disch:=first|assumption|omega)only[Hb,↓C2,G7,simprocAttr,Hm,Ae Ue 36,d,Ae Ue 35,w,c1,n,o])
 all_goals exact Y6
def Sy:Bs:=[48,49,50,51,52,53,54,55,56,57,97,98,99,100,101,102]
def aEo:=Ar [(34,Ac Nu),(11,Ac DW)]
def aND:=RF aEo aDr [.cell (some 7) 4,.t 5] 38
def aPv:Kq aND 10:=Ap (Aj func10) (Aa aBI (Aa aBM Ad))
def Ox(l:List Bs):Int:=if 40<l.length then 1 else if l.all (λs=>decide (s.length<=500))=true then 0 else 1
def aVX:=Ar []
def aNF:=RF aVX aDt [.t 2] 19
def aPx:Kq aNF 8:=Ap (Aj func8) Ad
def cS{S:G8}{l:List Bs}{nl:Bool}{Q:Ex->St->Prop}(hl:l.length<=40){R:Int}(a:∀r,r.s 2= .int .i64 R->Q .ret r)(t:∀r,R=0->Q (.exit 0) r):
  ∀(f j:Nat)(v:St) g,l.length=j+f->(if(l.drop j).all (λs=>decide (s.length<=500))=true then(0:Int)else 1)=R->v.s 0= .slice nl [] (strsD l)->v.s 3= .int .i64 (j:Int)->Be S [] Nd Q v g
 |0,j,v,g,hf,hR,h0,h3=>by
  refine Af Nd.eq_1 ?_;have u:((j:Int)<l.length)=False:=eq_false O;rw[QO O]at hR;have y:=AT l;simp only[Hb,↓C2,G7,simprocAttr,h0,h3,u,y];exact t _ hR.symm
 |f+1,j,v,g,hf,hR,h0,h3=>by
  have ih:=cS (S:=S) (nl:=nl) hl a t f (j+1);refine Af Nd.eq_1 ?_;have u:((j:Int)<l.length)=True:=eq_true O;have b:j<l.length:=O
  have q:=DB b;have y:=AT l;rw[Qo b,List.all_cons]at hR;generalize l[j]=x at q hR;obtain⟨m,o,k⟩:=v;simp only at h0 h3;have i:=nJ (j:=j);have n:IntKind.i64.wrap ((j:Int)+1)=((j+1:Nat):Int):=Hy O O;by_cases z:x.length<=500
  ·have c1:((500:Int)<(x.length:Int))=False:=eq_false O;rw[decide_eq_true z,Bool.true_and]at hR;simp only[Hb,↓C2,G7,simprocAttr,h0,h3,u,y,i,Qg,q,n,c1];exact ih _ _ O hR h0 rfl
  ·have c1:((500:Int)<(x.length:Int))=True:=eq_true O;rw[decide_eq_false z,Z_]at hR;simp only[Zh,if_false]at hR;subst hR;simp only[Hb,↓C2,G7,simprocAttr,h0,h3,u,y,i,Qg,q,n,c1];exact a _ rfl
def aFh(nl:Bool)(l:List Bs):aNF [.slice nl [] (strsD l)]=some (.int .i64 (Ox l)):=by
 refine Al (Qa rfl) ?_;unfold aDt;have v:=AT l;unfold Ox;by_cases o:40<l.length
 ·rw[if_pos o];have c1:((40:Int)<(l.length:Int))=True:=eq_true O;simp only[Hb,↓C2,G7,simprocAttr,v,c1]
  all_goals exact Y6
 ·rw[if_neg o];have c1:((40:Int)<(l.length:Int))=False:=eq_false O;simp only[Hb,↓C2,G7,simprocAttr,v,c1];refine cS (nl:=nl) O (R:=if l.all (λs=>decide (s.length<=500))=true then(0:Int)else 1) (λr y=>?_) (λr h=>?_) l.length 0 _ _ O rfl rfl rfl
  ·simp only[Hb,↓C2,G7,simprocAttr,y]
   all_goals exact Y6
  ·rw[h];simp only[Hb,↓C2,G7,simprocAttr]
   all_goals exact Y6
def aHH(b:Bool):0<=Df b∧Df b<=99:=by cases b<;>decide
def aGK(s:Bs):0<=(LH s).2.2∧(LH s).2.2<=99:=by
 have:=UP ((splitC 44 s).map WP);unfold LH
 repeat' split
 all_goals simp only
 all_goals omega
def aGJ(s:Bs)(h:(LH s).1=true):(LH s).2.1=[]:=by
 unfold LH at h ⊢
 repeat' split
 all_goals first|rfl|(simp_all;done)
def aKQ{α:Type}(P:α->Prop){c:Prop}[Decidable c]{x y:α}(u:P x)(f:P y):P (if c then x else y):=by
 split
 ·exact u
 ·exact f
def aAI(a:Ak)(c:Int)(s:Bs):0<=(Ej a c s).2∧(Ej a c s).2<=99:=by
 unfold Ej
 repeat' refine aKQ (λz:Ak×Int=>0<=z.2∧z.2<=99) ?_ ?_
 all_goals dsimp only
 all_goals with_reducible first|exact TN _ _|exact aHH _|exact aGK _|exact⟨V,V⟩
def aOr{a:Ak}(x:Le a){c:Int}{s:Bs}(g:s.length<=400):Le (Ej a c s).1:=by
 have y:=aAN s g;have i:=aGJ s;have h:GD (Ej a c s).1.rs∧((Ej a c s).1.nlr=true->(Ej a c s).1.rs=[]):=by
  unfold Ej
  repeat' refine aKQ (λz:Ak×Int=>GD z.1.rs∧(z.1.nlr=true->z.1.rs=[])) ?_ ?_
  all_goals first|exact⟨x.cap,x.nlr⟩|exact⟨λr j=>(y.2 r j).2,i⟩
 exact⟨UI x.ok g,h.1,h.2⟩
def aDS{op:Int}(f:0<=op)(h:op<=18):Le {akZ with op:=op}:={ok:=aDZ f h,cap:=λr j=>(by cases j),nlr:=λ_=>rfl}
def fO:Le akZ:=aDS (op:=0) V V
def oJ:∀(ls:Bs)(o:List Bs){a:Ak},Le a->(∀w∈o,w.length<=400)->Le (FB a ls o).1∧0<=(FB a ls o).2∧(FB a ls o).2<=99
 |[],_,a,ha,_=>⟨ha,XZ,XZ⟩
 |_::_,[],a,_,_=>⟨fO,XZ,XZ⟩
 |c::ls,w::o,a,ha,hw=>by
  have u:=aAI a (c.toNat:Int) w;simp only[FB];split
  ·exact⟨fO,u.1,u.2⟩
  ·exact oJ ls o (aOr ha (hw w Qj)) λx q=>hw x (Qh _ q)
def rC(s:Bs):Le (EA s).1∧0<=(EA s).2∧(EA s).2<=99:=by
 unfold EA;split
 ·exact⟨fO,V,V⟩
 split
 ·exact⟨fO,V,V⟩
 split
 ·exact⟨fO,V,V⟩
 ·have h:=aJ6 ((splitC 32 s).getD 0 []);refine oJ _ _ (aDS h.1 h.2) λw f=>?_
  have:=F9 s w (Q0 f);omega
structure aNg (m:Md) (s:Bs) (m':Md) (y:Ry):Prop where
 run:DW [.agg (Hn m),.str s]=some (.tup [.agg (Hn m'),.str (Is y)])
 e:Mo y=0
 n:ryN y
 md:Sk m'
 room:m'.room=m.room
 key:m'.vw.key=m.vw.key
 fl:(∃e,y= .fail e)->m'=m
 bad:(EA s).2≠0->y= .fail (EA s).2∧m'=m
 ro:((EA s).1.op=1∨(EA s).1.op=9∨(EA s).1.op=14∨(EA s).1.op=17)->m'=m
def Sk.same{m:Md}(h:Sk m):Si [.agg (Hn m),.agg (Hn m)]=some (.bool true):=
 sE m (Qc h.vw.ml V) (Qc h.vw.kl V) (λk s=>(h.vw.ok.kp k s).1.1) h.tr.ord (Qc h.tr.cnt V)
def uV:V2 [CD]:=by
 refine⟨λi j u y=>by simp at y;omega,⟨λs=>if s=[]then 0 else 1,⟨λt p=>?_,λt p=>?_,List.pairwise_singleton _ _⟩,rfl⟩,λt p=>?_,λt p=>?_,λt p _=>?_,λt p _=>?_⟩
 ·rw[Qb.1 p];decide
 ·rw[Qb.1 p];decide
 ·rw[Qb.1 p];decide
 ·rw[Qb.1 p];exact .inl rfl
 ·rw[Qb.1 p];rfl
 ·rw[Qb.1 p];rfl
def aPy(z:Bs):HD (aHu z false):=
 ⟨⟨Qn _,λm n=>(by cases n),Qa rfl,λk s=>(by rw[Qb.1 s];exact⟨⟨V,λh=>Xc⟩,V,λr x=>(by rw[Qb.1 x];decide),λr x=>(by rw[Qb.1 x];decide)⟩)⟩,uV,λi j u y=>absurd y (by show ¬j<0;omega),λ_=>rfl,⟨Q4 1,(by show(1:Int)<=6;decide)⟩,Qa rfl,Qn _,λm n=>(by cases n)⟩
def aKo{r:Int}(f:0<=r)(u:r<65536):Sk (OA Sy (300+r)):=⟨aPy _,pY (by show(300:Int)<=300+r;omega) (by show(300:Int)+r<=70000;omega)⟩
namespace Tr
def Gy{l:List (Kt×Kt)}(h:Ord l){q v:Kt}:OV l q=some v↔(q,v)∈l:=⟨getL_some,getL_mem h⟩
def aHy{l:List (Kt×Kt)}{k v:Kt}{x:Kt×Kt}:x∈Vc l k v↔x=(k,v)∨(x∈l∧x.1≠k):=by
 unfold Vc;rw[Qw,Qv,Qr,Qr];constructor
 ·rintro(⟨h1,h2⟩|h|⟨h1,h2⟩)
  ·exact .inr ⟨h1,λe=>by rw[e,Co]at h2;cases h2⟩
  ·exact .inl h
  ·exact .inr ⟨h1,λe=>by rw[e,Co]at h2;cases h2⟩
 ·rintro(h|⟨h1,h2⟩)
  ·exact .inr (.inl h)
  ·rcases cI x.1 k with c|c|c
   ·exact .inl ⟨h1,c⟩
   ·exact absurd c h2
   ·exact .inr (.inr ⟨h1,c⟩)
def UU{α:Type}{a b:Option α}(h:∀v,a=some v↔b=some v):a=b:=by
 cases b with
 |none=>cases a with
  |none=>rfl
  |some x=>exact absurd ((h x).1 rfl) U
 |some y=>exact(h y).2 rfl
def get_put{t:Tr}(h:Ord t.lst)(k v q:Kt):(t.put k v).get q=if q=k then some v else t.get q:=by
 have y:Ord (t.put k v).lst:=by rw[lst_put k v t h];exact ins_ord h k v
 refine UU λw=>?_
 rw[get_lst q _ y,Gy y,lst_put k v t h,aHy];by_cases e:q=k
 ·subst e;rw[if_pos rfl];constructor
  ·rintro(i|⟨_,i⟩)
   ·cases i;rfl
   ·exact absurd rfl i
  ·intro i;cases i;exact .inl rfl
 ·rw[if_neg e,get_lst q _ h,Gy h];constructor
  ·rintro(i|⟨i,_⟩)
   ·cases i;exact absurd rfl e
   ·exact i
  ·intro i;exact .inr ⟨i,e⟩
def get_del{t:Tr}(h:Ord t.lst)(k q:Kt):(delT k t).get q=if q=k then none else t.get q:=by
 have y:Ord (delT k t).lst:=by rw[lst_del k t h];exact ord_sub QN h
 refine UU λw=>?_
 rw[get_lst q _ y,Gy y,lst_del k t h,Qr];by_cases e:q=k
 ·subst e;rw[if_pos rfl];simp
 ·rw[if_neg e,get_lst q _ h,Gy h];simp[e]
end Tr
def oS(k v:Bs)(t:Tr):DJ (1,k,v) t=t.put k v:=if_pos rfl
def O9(k v:Bs)(t:Tr):DJ (2,k,v) t=Tr.delT k t:=rfl
def Gv{f:Int->Bs}:∀(ns:List Int){t:Tr},Tr.Ord t.lst->∀{q:Bs},(∀n∈ns,f n≠q)->(BK (ns.map λn=>((2:Int),f n,([]:Bs))) t).get q=t.get q
 |[],t,h,q,hq=>rfl
 |n::ns,t,h,q,hq=>by
  show(BK (ns.map _) (DJ (2,f n,[]) t)).get q=_;rw[O9,Gv ns (by rw[←O9 _ []];exact(DI _ h).1) λx w=>hq x (Qh _ w),Tr.get_del h,if_neg (λe=>hq n Qj e.symm)]
def MG:∀(a b:List Op1)(t:Tr),BK (a++b) t=BK b (BK a t)
 |[],b,t=>rfl
 |x::a,b,t=>MG a b _
def aGO{l:List Op1}{t:Tr}(h:Tr.Ord t.lst):Tr.Ord (BK l t).lst:=(MF l h).1
def ET(x y:UInt8)(p q:Bs):A7 (y::q) (x::p)=(decide (y=x)&&A7 q p):=by
 unfold A7;simp only[Qk,Zy,QM,Bool.decide_and]
def aB5(q:Bs):A7 q []=true:=XB
def NU(x:UInt8)(p:Bs):A7 [] (x::p)=false:=XB
namespace Tr
def MP(x y:UInt8)(p q:Kt):Hp (y::q) (x::p)=(decide (y<x)||(y==x&&Hp q p)):=rfl
def aBh(q:Kt):Hp q []=false:=by cases q<;>rfl
def U3(x:UInt8)(p:Kt):Hp [] (x::p)=true:=rfl
def RZ:∀{p:Kt},beyB p=none->∀q,Hp q p=!A7 q p
 |[],h,q=>by rw[aBh,aB5];rfl
 |x::p,h,q=>by
  unfold beyB at h;cases hb:beyB p with
  |some e=>rw[hb]at h;cases h
  |none=>
   rw[hb]at h;simp only at h;split at h
   ·cases h
   ·rename_i w;have ih:=RZ hb;cases q with
    |nil=>rw[U3,NU];rfl
    |cons y q=>
     rw[MP,ET,ih q];have c:x=255:=by
      have u:¬x.toNat<255:=λh=>w (UInt8.lt_iff_toNat_lt.2 h)
      have f:=x.toNat_lt;exact UInt8.toNat_inj.1 (by show x.toNat=255;omega)
     subst c;have o:=y.toNat_lt;by_cases e:y=255
     ·subst e;simp
     ·have:y<255:=UInt8.lt_iff_toNat_lt.2 (by
       have:y.toNat≠255:=λh=>e (UInt8.toNat_inj.1 h)
       show y.toNat<255;omega)
      simp[this,e]
def fC:∀{p e:Kt},beyB p=some e->∀q,(!Hp q p&&Hp q e)=A7 q p
 |[],e,h,q=>Xc
 |x::p,e,h,q=>by
  unfold beyB at h;cases hb:beyB p with
  |some m=>
   rw[hb]at h;simp only[Qx]at h;subst h;have ih:=fC hb;cases q with
   |nil=>rw[U3,NU];rfl
   |cons y q=>
    rw[MP,MP,ET,←ih q];by_cases e:y=x
    ·subst e;have:¬(y<y):=λh=>absurd (UInt8.lt_iff_toNat_lt.1 h) (ZE _)
     simp[this]
    ·have m:(y==x)=false:=by simpa using e
     rw[m,decide_eq_false e];by_cases h:y<x<;>simp[h]
  |none=>
   rw[hb]at h;simp only at h;split at h
   ·rename_i w;simp only[Qx]at h;subst h;have ih:=RZ hb;cases q with
    |nil=>rw[U3,NU];rfl
    |cons y q=>
     rw[MP,MP,ET,ih q,aBh,Bool.and_false,ZF];have a:=UInt8.lt_iff_toNat_lt.1 w;have k:(x+1).toNat=x.toNat+1:=by
      rw[UInt8.toNat_add];have:(255:UInt8).toNat=255:=rfl;have:(1:UInt8).toNat=1:=rfl;omega
     have n:(y<x+1)↔(y<x∨y=x):=by
      rw[UInt8.lt_iff_toNat_lt,UInt8.lt_iff_toNat_lt,k];constructor
      ·intro h;rcases Z4 y.toNat x.toNat with h2|h2
       ·exact .inl h2
       ·exact .inr (UInt8.toNat_inj.1 O)
      ·rintro(h|h)
       ·omega
       ·subst h;omega
     by_cases e:y=x
     ·subst e;have u:¬(y<y):=λh=>absurd (UInt8.lt_iff_toNat_lt.1 h) (ZE _)
      simp[u,n.2 (.inr rfl)]
     ·have m:(y==x)=false:=by simpa using e
      rw[m,decide_eq_false e];by_cases h:y<x
      ·simp[h]
      ·have:¬(y<x+1):=λh2=>(n.1 h2).elim h e
       simp[this]
   ·cases h
def aCr{l:List (Kt×Kt)}(h:Ord l)(p:Kt){x:Kt×Kt}:x∈TS p l↔x∈l∧A7 x.1 p=false:=by
 unfold TS;rw[Qw,Qr];cases hb:beyB p with
 |none=>
  have:=RZ hb x.1;simp only[ZR,or_false];rw[this];simp
 |some e=>
  have:=fC hb x.1;simp only[Qr,Zm];rw[←this];have i:Hp x.1 p=true->Hp x.1 p=true:=id;cases h1:Hp x.1 p<;>cases h2:Hp x.1 e<;>simp_all
def get_drop{t:Tr}(h:Ord t.lst)(p q:Kt):(dropT p t).get q=if A7 q p=true then none else t.get q:=by
 have y:Ord (dropT p t).lst:=by rw[lst_drop p t h];exact ord_sub (drop_sub p h) h
 refine UU λw=>?_
 rw[get_lst q _ y,Gy y,lst_drop p t h,aCr h];cases e:A7 q p with
 |true=>simp[e]
 |false=>
  rw[if_neg V,get_lst q _ h,Gy h];simp[e]
end Tr
def opG(x:Op1)(q:Bs)(o:Option Bs):Option Bs:=if x.1=1 then(if q=x.2.1 then some x.2.2 else o)else if x.1=2 then(if q=x.2.1 then none else o)else if x.1=3 then(if A7 q x.2.1=true then none else o)else o
def jH:List Op1->Bs->Option Bs->Option Bs
 |[],_,o=>o
 |x::l,q,o=>jH l q (opG x q o)
def aPG{t:Tr}(h:Tr.Ord t.lst)(x:Op1)(q:Bs):(DJ x t).get q=opG x q (t.get q):=by
 unfold DJ opG;split
 ·exact Tr.get_put h _ _ _
 split
 ·exact Tr.get_del h _ _
 split
 ·exact Tr.get_drop h _ _
 ·rfl
def Pe:∀(l:List Op1){t:Tr},Tr.Ord t.lst->∀(q:Bs),(BK l t).get q=jH l q (t.get q)
 |[],t,h,q=>rfl
 |x::l,t,h,q=>by
  show(BK l (DJ x t)).get q=jH l q (opG x q (t.get q));rw[Pe l (DI x h).1 q,aPG h]
def bW(x:Op1)(q:Bs):Prop:=if x.1=3 then A7 q x.2.1=false else q≠x.2.1
def aGR{x:Op1}{q:Bs}(h:bW x q)(o:Option Bs):opG x q o=o:=by
 unfold bW at h;unfold opG;by_cases i:x.1=3
 ·rw[if_pos i]at h;rw[if_neg O,if_neg O,if_pos i,h];rfl
 ·rw[if_neg i]at h;rw[if_neg i,if_neg h,if_neg h];simp
def bS:∀{l:List Op1} {q:Bs},(∀x∈l,bW x q)->∀o,jH l q o=o
 |[],q,h,o=>rfl
 |x::l,q,h,o=>by
  show jH l q (opG x q o)=o;rw[aGR (h x Qj)];exact bS (λy r=>h y (Qh _ r)) o
def Pf{l:List Op1}{t:Tr}(h:Tr.Ord t.lst){q:Bs}(g:∀x∈l,bW x q):(BK l t).get q=t.get q:=by
 rw[Pe l h,bS g]
def Gi{l:List Int}{p:Nat}{n:Int}(h:l[p]?=some n)(f:0<=n)(u:n<256):BB (N5 l) p 0=(n,p+1,0):=by
 obtain⟨c,z⟩:=Zj.1 h;have y:p<(N5 l).length:=by unfold N5;rw[Qq];exact c
 unfold BB;rw[if_neg (λh=>h rfl),dif_pos y];have e:(N5 l)[p]=UInt8.ofNat n.toNat:=by simp[N5,z]
 rw[e,UInt8.toNat_ofNat'];have:((n.toNat % 2 ^ 8:Nat):Int)=n:=O
 rw[this]
def aH3(l:List Int):(N5 l).length=l.length:=by unfold N5;rw[Qq]
def aHE(g d:Bool):0<=bits .or .u8 (DP g) (IntKind.u8.wrap (DP d*2))∧bits .or .u8 (DP g) (IntKind.u8.wrap (DP d*2))<256∧decide (3<bits .or .u8 (DP g) (IntKind.u8.wrap (DP d*2)))=false∧decide (bits .and .i64 (bits .or .u8 (DP g) (IntKind.u8.wrap (DP d*2))) 1≠0)=g∧decide (bits .and .i64 (bits .or .u8 (DP g) (IntKind.u8.wrap (DP d*2))) 2≠0)=d:=by
 cases g<;>cases d<;>decide+kernel
def ST:∀(rs:List Rw){l pre:List Int},pre++FA rs=l->(∀x∈rs,0<=x.1∧x.1<256)->Ik (N5 l) rs.length pre.length 0=(rs,false,l.length,0)
 |[],l,pre,h,_=>by
  rw[←h];simp[Ik,FA]
 |x::rs,l,pre,h,hb=>by
  obtain⟨g,k⟩:=hb x Qj;obtain⟨s,q,u,f,a⟩:=aHE x.2.1 x.2.2;have w:l[pre.length]?=some x.1:=by
   rw[←h,Zi (Qf _),Nat.sub_self];show some (IntKind.u8.wrap x.1)=_;rw[w8 g k]
  have m:l[pre.length+1]?=some (bits .or .u8 (DP x.2.1) (IntKind.u8.wrap (DP x.2.2*2))):=by
   rw[←h,Zi O,show pre.length+1-pre.length=1 by omega];rfl
  have n1:=Gi w g k;have n2:=Gi m s q;have hl:(pre++iU x)++FA rs=l:=by rw[←h,QG];rfl
  have ih:=ST rs hl λy o=>hb y (Qh _ o)
  have n:(pre++iU x).length=pre.length+1+1:=by rw[QD];rfl
  rw[n]at ih;show Ik (N5 l) (rs.length+1) pre.length 0=_;unfold Ik;simp only[n1,n2,ih,u,f,a,ZF]
def Wr{s:Sc}(h:SI s):A_ (BS s)=({s with nl:=decide (s.rs=[])},0):=by
 obtain⟨_,u,f,p,r,a⟩:=GZ h.bad;have hl:s.rs.length<=6:=h.len;have ka:∀x∈s.rs,0<=x.1∧x.1<256:=λx q=>by have:=Cc h x q;omega
 have e:BS s=N5 ([s.mx,DP s.cas,s.la,(s.rs.length:Int)]++FA s.rs):=by
  unfold BS;rw[if_neg (by rw[h.bad];decide),w8 u.1 O,w8 f.1 O,w8 (x:=(s.rs.length:Int)) O O]
 have v:(BS s).length=4+2*s.rs.length:=by
  rw[e,aH3,QD,rowsI_len];rfl
 have z:0<=DP s.cas∧DP s.cas<256∧decide (DP s.cas=1)=s.cas∧decide (1<DP s.cas)=false:=by cases s.cas<;>decide
 have n1:L0 (BS s)=(s.mx,1,0):=by unfold L0;rw[e];exact Gi rfl u.1 O
 have n2:LI (BS s)=(DP s.cas,2,0):=by unfold LI;rw[n1,e];exact Gi rfl z.1 z.2.1
 have y:L_ (BS s)=(s.la,3,0):=by unfold L_;rw[n2,e];exact Gi rfl f.1 O
 have b:Gk (BS s)=((s.rs.length:Int),4,0):=by unfold Gk;rw[y,e];exact Gi rfl O O
 have k:Fm (BS s)=(s.rs,false,4+2*s.rs.length,0):=by
  unfold Fm;rw[b];simp only[Qg];have:=ST s.rs (l:=[s.mx,DP s.cas,s.la,(s.rs.length:Int)]++FA s.rs) (pre:=[s.mx,DP s.cas,s.la,(s.rs.length:Int)]) rfl ka;rw[←e]at this;rw[show([s.mx,DP s.cas,s.la,(s.rs.length:Int)]:List Int).length=4 from rfl]at this;rw[this];have j:([s.mx,DP s.cas,s.la,(s.rs.length:Int)]++FA s.rs).length=4+2*s.rs.length:=by
   rw[QD,rowsI_len];rfl
  rw[j]
 have w:Um (BS s)={s with nl:=decide (s.rs=[])}:=by
  unfold Um;rw[n1,n2,y,b,k];simp only[Qg,z.2.2.1];have:decide (s.rs.length=0)=decide (s.rs=[]):=by
   by_cases c:s.rs=[]
   ·rw[c];rfl
   ·rw[decide_eq_false c,decide_eq_false (λn=>c (Q5.1 n))]
  rw[this]
 have o:BU {s with nl:=decide (s.rs=[])} 6=false:=h.bad;have i:vT (BS s).length (4+2*s.rs.length) 0=0:=by
  unfold vT;rw[if_neg (λh=>h rfl),v,if_neg (ZE _)]
 unfold A_;rw[k];simp only[i,n2,z.2.2.2,w,o,ZF];rfl
structure aVY (v:Vw) (p:Bs):Prop where
 se:v.se=false
 fd:A4 v.ks oG=true
 mt:A0 v.ms p≠-1
def FU(t:Tr)(p:Bs):Bs×Bool×Bool:=((t.get (An 1 p 0)).getD [],(t.get (An 1 p 0)).isSome,true)
def aW9(q:Bs):CN kn0 q=([],false,false):=rfl
def vR(k:Kn)(t:Tr)(q g:Bs):CN (A3 k q false (Fa t q)) g=if q=g then((t.get q).getD [],(t.get q).isSome,true)else CN k g:=by
 rw[cW];exact eC k q _ _ g
def Va{k n:Int}{name:Bs}{w j:Int}{a:Bs}(h:Bl k name n=0)(f:Bl w a j=0)(e:An k name n=An w a j):k=w∧name=a∧n=j:=by
 have u:=Bn h;rw[e,Bn f]at u;simp only[ZC]at u;exact⟨u.1.symm,u.2.1.symm,u.2.2.symm⟩
def Eo{s p:Bs}:A7 s p=true↔∃r,s=p++r:=by
 unfold A7;rw[decide_eq_true_eq];constructor
 ·intro h;exact⟨s.drop p.length,by conv=>lhs;rw[←QA p.length s,h]⟩
 ·rintro⟨r,rfl⟩;simp
def NP{q:Bs}(h:Bl (Ao q).1 (Ao q).2.1 (Ao q).2.2=0):An (Ao q).1 (Ao q).2.1 (Ao q).2.2=q:=by
 unfold An;rw[if_neg (λe=>e h)];unfold Ao at h ⊢;by_cases u:q=[115,47,109,111,117,110,116,115]
 ·subst u;rfl
 rw[if_neg u]at h ⊢;by_cases y:q=[115,47,114,105,110,103]
 ·subst y;rfl
 rw[if_neg y]at h ⊢;by_cases i:A7 q [109,47]=true
 ·rw[if_pos i];obtain⟨r,rfl⟩:=Eo.1 i;rfl
 rw[if_neg i]at h ⊢;by_cases p:A7 q [116,47]=true
 ·rw[if_pos p];obtain⟨r,rfl⟩:=Eo.1 p;rfl
 rw[if_neg p]at h ⊢;by_cases m:A7 q [100,47]=true∧2<(q.drop 2).length∧(q.drop 2).getD ((q.drop 2).length-2) 0=0
 ·rw[if_pos m]at h ⊢;obtain⟨n,k,s⟩:=m;obtain⟨r,rfl⟩:=Eo.1 n;have e:([100,47]++r:Bs).drop 2=r:=rfl;rw[e]at h k s ⊢;simp only;rw[if_neg V,if_pos V];have o:=(r.getD (r.length-1) 0).toNat_lt;have f:UInt8.ofNat (IntKind.u8.wrap (((r.getD (r.length-1) 0).toNat:Nat):Int)).toNat=r.getD (r.length-1) 0:=by
   rw[w8 O O,Qg];exact UInt8.ofNat_toNat
  rw[f,QG];congr 1;have t:r.drop (r.length-2)=[r.getD (r.length-2) 0,r.getD (r.length-1) 0]:=by
   have a:r.length-2<r.length:=O
   have g:r.length-2+1<r.length:=O
   rw[Qo a,Qo g,QO O];simp only[ZP,Qi a,QI];have z:r.length-1<r.length:=O
   simp only[Qi z,QI,show r.length-2+1=r.length-1 by omega]
  rw[s]at t
  conv=>rhs;rw[←QA (r.length-2) r,t]
 ·rw[if_neg m]at h;exact absurd h V
def uL{s:Bs}{i:Nat}(hi:i<s.length)(h:D5 (DU s i).1=true):1<=(DU s i).2∧∀j,i<=j->j<i+(DU s i).2->45<=Hs s j∧Hs s j≠58:=by
 grind [OM,EP,DU,D5]
def PS{s:Bs}:∀(f p n:Nat),s.length<=p+f->DE s f p n≠4->∀j,p<=j->j<s.length->45<=Hs s j∧Hs s j≠58
 |0,p,n,hf,h,j,h1,h2=>O
 |f+1,p,n,hf,h,j,h1,h2=>by
  unfold DE at h;rw[if_pos O]at h;split at h
  ·rename_i i;obtain⟨t,z⟩:=uL O i;by_cases q:j<p+(DU s p).2
   ·exact z j h1 q
   ·exact PS f _ _ O h j O h2
  ·exact absurd rfl h
def uJ{s:Bs}(h:E7 s=0):∀c∈s,45<=c.toNat∧c.toNat≠58:=λc z=>by
 unfold E7 at h;split at h
 ·cases h
 ·obtain⟨j,q,rfl⟩:=QW z;have:=PS s.length 0 0 O (by rw[h];decide) j (Qn _) q;unfold Hs at this;rw[List.getD_eq_getElem?_getD,Qi q]at this;exact this
def Ok{q:UInt8}:∀(s:Bs),∀c∈s,c=q∨∃w∈splitC q s,c∈w
 |[],c,h=>Xc
 |x::r,c,h=>by
  have ih:=Ok (q:=q) r;unfold splitC;split
  ·rename_i e;rcases Qv.1 h with rfl|h
   ·exact .inl e
   ·rcases ih c h with h|⟨w,hw,h⟩
    ·exact .inl h
    ·exact .inr ⟨w,Qh _ hw,h⟩
  ·split
   ·rename_i v t m;rcases Qv.1 h with rfl|h
    ·exact .inr ⟨_,Qj,Qj⟩
    ·rcases ih c h with h|⟨w,hw,h⟩
     ·exact .inl h
     ·rw[m]at hw;rcases Qv.1 hw with rfl|hw
      ·exact .inr ⟨_,Qj,Qh _ h⟩
      ·exact .inr ⟨w,Qh _ hw,h⟩
   ·rename_i m;exact absurd m (Ga r)
def iV{p:Bs}(h:Ay p=0):∀c∈p,45<=c.toNat∧c.toNat≠58:=λc z=>by
 rcases Ok (q:=47) p c z with rfl|⟨w,f,z⟩
 ·decide
 ·exact uJ (Oq h w f) c z
def EW{s z:Bs}(p:z≠[]):Bj s z=true↔∃r,s=z++47::r:=by
 unfold Bj;rw[if_neg p,Qz,Eo];constructor
 ·rintro⟨⟨r,rfl⟩,h2⟩;rw[Z0]at h2;obtain⟨a,rfl⟩:=Eo.1 h2;exact⟨a,rfl⟩
 ·rintro⟨r,rfl⟩;refine⟨⟨_,rfl⟩,?_⟩;rw[Z0];exact Eo.2 ⟨r,rfl⟩
def xN{p a b:Bs}(t:a≠[])(o:b≠[])(u:Bj p a=true)(y:Bj p b=true):Bw a b=true∨Bw b a=true:=by
 obtain⟨r,rfl⟩:=(EW t).1 u;obtain⟨f,e⟩:=(EW o).1 y;rcases Zk.1 e with ⟨x,w,m⟩|⟨x,w,m⟩
 ·cases x with
  |nil=>
   left;unfold Bw;rw[ZU]at w;rw[decide_eq_true w.symm];rfl
  |cons c x=>
   simp only[Qe,QM]at m;right;unfold Bw;rw[(EW t).2 ⟨x,by rw[w,←m.1]⟩,Z6]
 ·cases x with
  |nil=>
   left;unfold Bw;rw[ZU]at w;rw[decide_eq_true w];rfl
  |cons c x=>
   simp only[Qe,QM]at m;left;unfold Bw;rw[(EW o).2 ⟨x,by rw[w,←m.1]⟩,Z6]
def aNG(l:List Mt):Prop:=l.Pairwise λa b=>Bw a.1 b.1=false∧Bw b.1 a.1=false
structure Og (l:List Mt):Prop where
 ok:∀a∈l,C7 a.1 a.2.1=0
 ns:aNG l
def Oz{p:Bs}{q:Int}(h:C7 p q=0):Ay p=0∧1<=q∧q<=6:=by
 unfold C7 at h;split at h
 ·rename_i u;exact absurd h u
 ·rename_i u;split at h
  ·rename_i y;exact⟨Decidable.not_not.1 u,y⟩
  ·cases h
def Lm{p:Bs}(h:Ay p=0):p≠[]:=λe=>by have:=PW h;rw[e]at this;cases this
def Og.one{l:List Mt}(h:Og l){p:Bs}{a b:Mt}(x:a∈l)(o:b∈l)(u:Bj p a.1=true)(y:Bj p b.1=true):a=b:=by
 apply Classical.byContradiction;intro t;have d:=xN (Lm (Oz (h.ok a x)).1) (Lm (Oz (h.ok b o)).1) u y;obtain⟨i,hi,rfl⟩:=QW x;obtain⟨j,q,rfl⟩:=QW o;rcases ZN i j with c|rfl|c
 ·have:=QR.1 h.ns i j hi q c;rw[this.1,this.2]at d;rcases d with h|h<;>cases h
 ·exact t rfl
 ·have:=QR.1 h.ns j i q hi c;rw[this.1,this.2]at d;rcases d with h|h<;>cases h
def RD{l:List Bool}(h:Bc l≠-1):l[(Bc l).toNat]?=some true:=by
 unfold Bc at h ⊢;split
 ·rename_i k s;rw[List.findIdx?_eq_some_iff_getElem]at s;obtain⟨w,u,_⟩:=s;rw[Qg,Qi w];simpa using u
 ·rename_i s;rw[s]at h;exact absurd rfl h
def kU{l:List Bool}(h:Bc l=-1):∀b∈l,b=false:=by
 unfold Bc at h;split at h
 ·omega
 ·rename_i s;intro b o;have:=List.findIdx?_eq_none_iff.1 s b o;simpa using this
def S9{l:List Mt}{p:Bs}(h:A0 l p≠-1):Cd l (A0 l p).toNat∈l∧Bj p (Cd l (A0 l p).toNat).1=true:=by
 have u:=RD h;rw[QF,QE]at u;obtain⟨m,j,o⟩:=u;have e:Cd l (A0 l p).toNat=m:=by
  unfold Cd;rw[ZP];show(l[(A0 l p).toNat]?).getD _=_;unfold A0;rw[j];rfl
 rw[e];exact⟨Q1 j,o⟩
def uD{l:List Mt}{p:Bs}{a:Mt}(x:a∈l)(o:Bj p a.1=true):A0 l p≠-1:=λh=>by
 have:=kU h (Bj p a.1) (Ql.2 ⟨a,x,rfl⟩);rw[this]at o;cases o
def bJ{v:Vw}(h:Og v.ms){p:Bs}{a:Mt}(x:a∈v.ms)(o:Bj p a.1=true):A0 v.ms p≠-1∧AL v p=a.2:=by
 have u:=uD x o;obtain⟨y,i⟩:=S9 u;refine⟨u,?_⟩;unfold AL;rw[if_neg u,h.one y x i o]
def Og.get{v:Vw}{p:Bs}(h:A0 v.ms p≠-1):∃a∈v.ms,Bj p a.1=true∧AL v p=a.2:=by
 obtain⟨y,i⟩:=S9 h;refine⟨_,y,i,?_⟩;unfold AL;rw[if_neg h]
def rE{l z:List Mt}{m:Mt}(h:Fl l)(e:(Fr l m).1=some z):(∀x,x∈z↔x∈l∨x=m)∧C7 m.1 m.2.1=0∧(∀a∈l,Bw m.1 a.1=false∧Bw a.1 m.1=false)∧∃k,z=l.take k++m::l.drop k:=by
 rw[N8 h]at e;unfold xR at e;split at e
 ·cases e
 rename_i u;split at e
 ·cases e
 split at e
 ·cases e
 rename_i i;split at e
 ·cases e
 simp only[Qx]at e;refine⟨λx=>?_,Decidable.not_not.1 u,λa r=>?_,_,e.symm⟩
 ·rw[←e,Qw,Qv]
  conv=>rhs;rw[←QA (hZ l m.1 l.length) l,Qw]
  constructor
  ·rintro(h|h|h)<;>simp[h]
  ·rintro((h|h)|h)<;>simp[h]
 ·have i:II m.1 (l.map (·.1))=false:=by simpa using i
  unfold II at i;rw[List.any_eq_false]at i;have:=i a.1 (Ql.2 ⟨a,r,rfl⟩);simpa using this
def Og.add{l z:List Mt}{m:Mt}(hi:Og l)(h:Fl l)(e:(Fr l m).1=some z):Og z:=by
 obtain⟨u,y,i,k,rfl⟩:=rE h e;refine⟨λa x=>?_,?_⟩
 ·rcases(u a).1 x with h|rfl
  ·exact hi.ok a h
  ·exact y
 ·have d:=hi.ns;unfold aNG at d ⊢;rw[←QA k l,Q2]at d;rw[Q2,QY];refine⟨d.1,⟨λa x=>?_,d.2.1⟩,λa x b hb=>?_⟩
  ·exact i a (Q0 x)
  ·rcases Qv.1 hb with rfl|hb
   ·exact⟨(i a (QJ x)).2,(i a (QJ x)).1⟩
   ·exact d.2.2 a x b hb
def oH(l:List Mt)(p:Bs):(EG l p).Sublist l:=by
 unfold EG
 conv=>rhs;rw[←QA (BC l p).toNat l]
 refine List.Sublist.append (List.Sublist.refl _) ?_;rw[←List.drop_drop];exact ZK _ _
def Og.rem{l:List Mt}(hi:Og l)(p:Bs):Og (EG l p):=⟨λa x=>hi.ok a ((oH l p).subset x),hi.ns.sublist (oH l p)⟩
def aGE{l:List Mt}{p:Bs}(k:0<=BC l p){a:Mt}(x:a∈l)(t:a.1≠p):a∈EG l p:=by
 have g:l[(BC l p).toNat]?≠none:=λe=>by
  have:=RE l p;rw[List.getElem?_eq_none_iff]at e;omega
 have u:=RD (l:=l.map λm=>decide (m.1=p)) (by unfold BC at k;omega);rw[QF,QE]at u;obtain⟨m,j,b⟩:=u;replace j:l[(BC l p).toNat]?=some m:=j;have s:l.drop (BC l p).toNat=m::l.drop ((BC l p).toNat+1):=by
  obtain⟨w,e⟩:=Zj.1 j;rw[Qo w,e]
 rw[←QA (BC l p).toNat l,s,Qw,Qv]at x;unfold EG;rw[Qw];rcases x with h|rfl|h
 ·exact .inl h
 ·exact absurd (of_decide_eq_true b) t
 ·exact .inr h
structure Sec (m:Md) (p:Bs) (s:Sc) (rs:List Rw) (n:Int) (g d:Bool) (data:Bs):Prop where
 md:Sk m
 rm:m.room≠0
 rt:aVY m.vw p
 len:p.length<=64
 n32:(32:UInt8)∉p
 ro:Ay p=0
 mt:m.tr.get (An 1 p 0)=some (BS s)
 ok:SI s
 nl:s.nl=false
 rs:s.rs=rs++[(n,g,d)]
 dt:d=false->m.tr.get (An 2 p n)=some data
section
variable{m:Md}{p:Bs}{s:Sc}{rs:List Rw}{n:Int}{g d:Bool}{data:Bs}
def Sec.sec(h:Sec m p s rs n g d data):B1 (FU m.tr p)=some s:=by
 unfold FU;rw[h.mt];unfold B1;show(if true=false∨(A_ (BS s)).2≠0 then none else some (A_ (BS s)).1)=some s;rw[Wr h.ok,if_neg U];have:decide (s.rs=[])=s.nl:=by rw[h.nl,h.rs];simp
 rw[this]
def Sec.nb(h:Sec m p s rs n g d data):1<=n∧n<=30:=by
 have:=Cc h.ok (n,g,d) (by rw[h.rs];simp);exact this
def WV:∀{a b:List Rw} {k:Int},a.map (·.1)=b.map (·.1)->Cn a k=Cn b k
 |[],[],k,_=>rfl
 |[],y::b,k,h=>Xc
 |x::a,[],k,h=>Xc
 |x::a,y::b,k,h=>by
  simp only[QH,QM]at h;unfold Cn;rw[h.1,WV h.2]
def aA5{a b:List Rw}(h:a.map (·.1)=b.map (·.1)):Gl a=Gl b:=by
 rw[CK,CK,←ZO,←ZO,h]
def fF{s:Sc}{r:List Rw}(h:r.map (·.1)=s.rs.map (·.1))(q:Int):BU {s with rs:=r} q=BU s q:=by
 have hl:r.length=s.rs.length:=YY
 unfold BU;simp only[hl,WV h,aA5 h];rfl
def qT(c:Nat)(x:Rw):(lS c x).1=x.1:=by
 unfold lS
 repeat' split
 all_goals rfl
end
def TO{s:Sc}{q:Int}(v:1<=AR s q):∃rs,(B_ (AZ s) q).rs=rs++[(s.la+1,false,false)]:=by
 unfold B_;simp only;have y:AR (AZ s) q=AR s q:=rfl;have hl:(AZ s).rs.length=s.rs.length+1:=by simp[AZ]
 have g:Bm (AZ s) q<=s.rs.length:=by unfold Bm;rw[y,hl];omega
 refine⟨s.rs.drop (Bm (AZ s) q),?_⟩;show Z9 _ (s.rs++_)=_;rw[Q8 g]
def My:∀(k:Nat){l:List Rw}{a:Int},0<=a->Cn l a=true->Cn (l.drop k) 0=true
 |0,[],a,_,_=>rfl
 |0,x::l,a,ha,h=>by
  simp only[Cn,Qz,decide_eq_true_eq]at h;show Cn (x::l) 0=true;simp only[Cn,Qz,decide_eq_true_eq];exact⟨O,h.2⟩
 |k+1,[],a,_,_=>rfl
 |k+1,x::l,a,ha,h=>by
  simp only[Cn,Qz,decide_eq_true_eq]at h;exact My k O h.2
def PX:∀{l:List Rw} {a:Int} {x:Rw},Cn l a=true->a<x.1->Gl l<x.1->Cn (l++[x]) a=true
 |[],a,x,_,h,_=>by
  show(decide (a<x.1)&&true)=true;rw[decide_eq_true h];rfl
 |[y],a,x,h,_,f=>by
  simp only[Cn,Qz,decide_eq_true_eq]at h;have f:y.1<x.1:=f;show(decide (a<y.1)&&(decide (y.1<x.1)&&true))=true;rw[decide_eq_true h.1,decide_eq_true f];rfl
 |y::z::l,a,x,h,h1,f=>by
  simp only[Cn,Qz,decide_eq_true_eq]at h;have j:Cn (z::l) y.1=true:=by
   simp only[Cn,Qz,decide_eq_true_eq];exact h.2
  have g:Gl (z::l)<x.1:=by rw[CK]at f ⊢;rw[List.getLast?_cons_cons]at f;exact f
  have o:=NF j z Qj;rw[CK]at g;have b:y.1<x.1:=Int.lt_trans o.1 (Int.lt_of_le_of_lt o.2 g);have:=PX j b (by rw[CK];exact g);show(decide (a<y.1)&&Cn (z::l++[x]) y.1)=true;rw[this,decide_eq_true h.1];rfl
def aPK{s:Sc}(g:SI s){q:Int}(v:BU s q=false)(hl:s.la≠30):SI (B_ (AZ s) q)∧(B_ (AZ s) q).nl=false:=by
 refine⟨?_,rfl⟩;obtain⟨k,u,f,j,r,z⟩:=Eu v;have y:AR (AZ s) q=AR s q:=rfl;have p:1<=AR s q∧AR s q<=6∧(s.mx≠0->AR s q=s.mx):=by
  unfold AR;split
  ·exact⟨k.1,k.2,λh=>absurd ‹_› h⟩
  ·exact⟨O,u.2,λ_=>rfl⟩
 have o:(B_ (AZ s) q).rs.length<=(AR s q).toNat:=by
  unfold B_;simp only[Zp];unfold Bm;rw[y];omega
 obtain⟨rs,x⟩:=TO (s:=s) (q:=q) p.1;have b:Cn (AZ s).rs 0=true:=PX r (by show 0<s.la+1;omega) (by rw[z];show s.la<s.la+1;omega);have a:Cn (B_ (AZ s) q).rs 0=true:=My _ (Q4 0) b;have t:Gl (B_ (AZ s) q).rs=s.la+1:=by rw[CK,x];simp
 refine⟨?_,λh=>Xc⟩;have n:AR (B_ (AZ s) q) 6=if s.mx=0 then 6 else s.mx:=rfl
 unfold BU;rw[a,t,n];have w:(B_ (AZ s) q).mx=s.mx:=rfl;have m:(B_ (AZ s) q).la=s.la+1:=rfl;rw[w,m,decide_eq_true (by omega:0<=s.mx∧s.mx<=6),decide_eq_true (by omega:0<=s.la+1∧s.la+1<=30),decide_eq_true (rfl:s.la+1=s.la+1)];have:decide ((if s.mx=0 then(6:Int)else s.mx)<((B_ (AZ s) q).rs.length:Int))=false:=by
  refine decide_eq_false λh=>?_
  have:=p.2.2;split at h
  ·omega
  ·rename_i c;have:=this c;omega
 rw[this];rfl
def aDq:=y2 f12 [] []
def aWN{m:Ha}{i:Id}{a b c d e f g:D}:Ag (m.put i 0 [a,b,c,d,e,f,g]) i 0 7=some [a,b,c,d,e,f,g]:=Az rfl
def pO{m:Ha}{i j o:Nat}{x:List D}(h:j≠i):m.put [i] 0 x [j] o=m [j] o:=aA (by simp[h])
def lnM:Bs:=[109,111,117,110,116,32,114,111,111,116,32,97,32,50,32,48]
def lnW:Bs:=[119,114,105,116,101,32,114,111,111,116,32,97,47,120,32,45,32,54,49,54,50]
def lnR:Bs:=[114,101,97,100,32,114,111,111,116,32,97,47,120,32,48]
def lnN:Bs:=[110,111,110,115,101,110,115,101]
def aM:Ak:={akZ with op:=5,tk:=oG,pa:=[97],n:=2}
def aW:Ak:={akZ with op:=10,tk:=oG,pa:=[97,47,120],cas:=-1,da:=[97,98]}
def aR:Ak:={akZ with op:=9,tk:=oG,pa:=[97,47,120]}
def aVm:EA lnM=(aM,0):=Z
def aVk:EA lnW=(aW,0):=Z
def aVl:EA lnR=(aR,0):=Z
def aXg:(EA lnN).2=22:=Z
def m0A:Md:=OA Sy 2000
def aBg:Sk m0A:=aKo (r:=1700) V V
def v1A:Vw:={m0A.vw with nlm:=false,ms:=[([97],2,false)]}
def aWs:Im m0A.vw aM=0:=Z
def nTA:List Mt:=[([97],2,false)]
def oM:Oc:=MM (He m0A.vw) false nTA
def XM:HN m0A.vw aM (λ_=>oM):=by
 have r:=aBg.vw;have p:=V8 r.ok (by have:=(rC lnM).1.ok;rw[aVm]at this;exact this);rw[aWs]at p;have w:=aFo (nl:=true) (t:=[]) (l:=[]) (m:=([97],2,false)) V (λ_=>rfl) V;rw[show Fr [] ([97],2,false)=(some nTA,0)by kernel_rfl]at w;have z:Sj nTA:=⟨V,λm n=>by rw[Qb.1 n];decide⟩;have b:∀m∈nTA,m.1.length<=64:=λm n=>by rw[Qb.1 n];decide
 exact BA _ (λk _=>BJ (v:=m0A.vw) .o5 aM k rfl p _ _ (aEd ⟨m0A.vw,aM,k⟩ (He m0A.vw) false nTA w (Io m0A.vw) z)) rfl (DL .done rfl trivial rfl Xn (Oj V) (by simp[oM,MM,P4,Oc.op,He]) ⟨by simp[oM,MM,P4,Oc.op,He],by
    simp only[oM,MM,P4,Oc.op,He,Qd,List.forall_mem_cons];have:=O2 b;exact⟨DH (.inl rfl) rfl (Qn _) (by have:nTA.length=1:=rfl;omega),λ_ h=>nomatch h⟩⟩ (Ul r z (λi j u y=>absurd y (by show ¬j<1;omega)) (λe=>Xv) V b))
def m1A:Md:=⟨v1A,BK oM.ops firstE,2000⟩
def dnM:CO m0A oM=(m1A,[111,107]):=Z
def cE:Sk m1A:=by
 have h:=(Ph aBg (XM.rep kn0 ⟨V,V,λx q=>XG,λx q=>XG⟩ rfl)).md;rw[dnM]at h;exact h
def aWq:Im m1A.vw aW=0:=Z
def oW:Oc:=FT (CW m1A.vw aW) m1A
def aVp:Le aW:=by have:=(rC lnW).1;rw[aVk]at this;exact this
def aVq:Le aR:=by have:=(rC lnR).1;rw[aVl]at this;exact this
def XW:HN m1A.vw aW (CW m1A.vw aW):=by
 have p:=V8 cE.vw.ok aVp.ok;rw[aWq]at p;exact RJ cE.vw aVp p Xk V
def m2A:Md:=(CO m1A oW).1
def dnW:(CO m1A oW).2=[111,107,32,110,117,109,98,101,114,32,49]:=Z
def m2v:m2A.vw=m1A.vw:=Z
def m2r:m2A.room=m1A.room:=Z
def m2c:m2A.tr.cnt=5:=Z
def m1c:m1A.tr.cnt=3:=Z
def aWr:Im m2A.vw aR=0:=Z
def VO:Sk m2A:=by
 obtain⟨g,k,s,v⟩:=NJ cE XW;have a:Lb m1A.vw aW (FT (CW m1A.vw aW) m1A):=by rw[v];exact XW.rep k s (by rw[←v];exact g)
 exact(Ph cE a).md
def XR:HN m2A.vw aR (C5 m2A.vw aR):=by
 have p:=V8 VO.vw.ok aVq.ok;rw[aWr]at p;exact eK VO.vw aVq p Xk (λh=>Xc) (.inl rfl)
def oR:Oc:=FT (C5 m2A.vw aR) m2A
def dnR:CO m2A oR=(m2A,[111,107,32,102,111,117,110,100,32,49,32,54,49,54,50]):=by
 obtain⟨g,k,s,v⟩:=NJ VO XR;have a:Lb m2A.vw aR (FT (C5 m2A.vw aR) m2A):=by rw[v];exact XR.rep k s (by rw[←v];exact g)
 refine Ja ((Ph VO a).ro (.inr (.inl rfl))) ?_
 kernel_rfl
def aJ3:m0A.room≠0:=V
def dM:DW [.agg (Hn m0A),.str lnM]=some (.tup [.agg (Hn m1A),.str [111,107]]):=by
 have h:=PI aJ3 (s:=lnM) V aVm aBg XM;rw[show FT (λ_=>oM) m0A=oM from rfl,dnM]at h;exact h
def dW:DW [.agg (Hn m1A),.str lnW]=some (.tup [.agg (Hn m2A),.str [111,107,32,110,117,109,98,101,114,32,49]]):=by
 have h:=PI (m:=m1A) V (s:=lnW) V aVk cE XW;rw[show(CO m1A (FT (CW m1A.vw aW) m1A)).2=_ from dnW]at h;exact h
def dR:DW [.agg (Hn m2A),.str lnR]=some (.tup [.agg (Hn m2A),.str [111,107,32,102,111,117,110,100,32,49,32,54,49,54,50]]):=by
 have h:=PI (m:=m2A) (by rw[m2r];decide) (s:=lnR) V aVl VO XR;rw[show CO m2A (FT (C5 m2A.vw aR) m2A)=_ from dnR]at h;exact h
def dN:DW [.agg (Hn m2A),.str lnN]=some (.tup [.agg (Hn m2A),.str [101,114,114,111,114,32,50,50]]):=by
 have h:=sH (m:=m2A) (by rw[m2r];decide) (s:=lnN) V aXg V;rw[show Is (.fail 22)=_ by kernel_rfl]at h;exact h
def sF:Si [.agg (Hn m2A),.agg (Hn m1A)]=some (.bool false):=
 aJf m2A m1A m2v m2r (Qc VO.vw.ml V) (Qc VO.vw.kl V) (λk s=>(VO.vw.ok.kp k s).1.1) (by rw[m2c,m1c];decide)
def sZ:Si [.agg (Hn zF),.agg (Hn zF)]=some (.bool true):=
 sE zF V V (λk s=>by cases s) List.Pairwise.nil V
def OP:=Ar [(34,Ac Nu),(11,Ac DW),(16,Ac Si),(17,Ac aFe),(36,Ac sB),(35,Ac Uj),(18,Ac sD)]
def aNE:=RF OP aDs [.t 0] 113
def aPw:Kq aNE 9:=Ap (Aj func9) (Aa aBI (Aa aBM (Aa aPt (Aa aBK (Aa aBH (Aa UX (Aa aBJ Ad)))))))
def aFg:aNE []=some (.bool true):=by
 refine Al (Qa rfl) ?_;unfold aDs;have n1:Nu [.str [48,49,50,51,52,53,54,55,56,57,97,98,99,100,101,102],.int .i64 2000]=some (.tup [.agg (Hn m0A),.int .i64 0]):=gI Sy 2000 rfl V (by have:=Vi;omega);have n2:Nu [.str [115,104,111,114,116],.int .i64 2000]=some (.tup [.agg (Hn zF),.int .i64 2]):=yM [115,104,111,114,116] 2000 V;have y:Nu [.str [48,49,50,51,52,53,54,55,56,57,97,98,99,100,101,102],.int .i64 20]=some (.tup [.agg (Hn zF),.int .i64 7]):=mY Sy 20 rfl V (by have:=aCj;omega);have u:DW [.agg (Hn m0A),.str [109,111,117,110,116,32,114,111,111,116,32,97,32,50,32,48]]=_:=dM;have i:DW [.agg (Hn m1A),.str [119,114,105,116,101,32,114,111,111,116,32,97,47,120,32,45,32,54,49,54,50]]=_:=dW;have x:DW [.agg (Hn m2A),.str [114,101,97,100,32,114,111,111,116,32,97,47,120,32,48]]=_:=dR;have z:DW [.agg (Hn m2A),.str [110,111,110,115,101,110,115,101]]=_:=dN;have a:DW [.agg (Hn zF),.str [115,116,97,116,117,115]]=some (.tup [.agg (Hn zF),.str []]):=aJg rfl [115,116,97,116,117,115];have r:=VO.same;have g:=sF;have k:=sZ;have m:=gL m0A aJ3 Pg;have w:=Sg;have o:=Lc Pg;have s:sD [.agg (Hn m0A)]=some (.int .i64 2000):=gK m0A;have z5:m0A.tr=firstE:=rfl;rw[z5]at m;generalize f:((Tr.weighL firstE.lst:Nat):Int)=W at m o;generalize firstE=F at w o;generalize m0A=A at *;generalize m1A=B at *;generalize m2A=C at *;simp only[Hn,zF,HH,AB,AJ,Zc,Qe,Qd,Lh]at n1 n2 y u i x z a r g k m w o s;simp (config:={maxSteps:=20000000}) (disch:=first|assumption|omega)only[Hb,↓C2,G7,simprocAttr,Hm,Ae OP 34,n1,n2,y,Ae OP 11,u,i,x,z,a,Ae OP 16,r,g,k,Ae OP 17,m,Ae OP 36,w,Ae OP 35,o,Ae OP 18,s,beq_self_eq_true]
def aVW:=Ar []
def sG:=RF aVW aDq [.cell (some 5) 2] 5
def aBL:Kq sG 12:=Ap (Aj func12) Ad
def gN(m:Md):sG [.agg (Hn m)]=some (HZ m.vw):=by
 refine Al (Qa rfl) ?_;unfold aDq;simp only[Hn,HZ,HH,Qe,Qd];simp (disch:=first|assumption|omega)only[Hb,↓C2,G7,simprocAttr,Hm]
 all_goals exact Y6
def gY:Md->List Bs->Md->Prop
 |m,[],z=>z=m
 |m,s::l,z=>∃o y,aNg m s o y∧gY o l z
def aBr{S:G8}(ka:S 11=some (Ac DW)){l:List Bs}{nl:Bool}{z:Md}{Q:Ex->St->Prop}(hn:l.length<=40)(hQ:∀o,o.s 6= .ptr [9] 0->o.s 4= .ptr [0] 0->o.s 7= .int .i64 0->Ag o.m [9] 0 7=some (Hn z)->(∃q,Ag o.m [0] 0 7=some q)->Q (.exit 0) o):
  ∀(f j:Nat)(m:Md)(v:St) g,l.length=j+f->gY m (l.drop j) z->10<=v.c->v.s 1= .slice nl [] (strsD l)->v.s 6= .ptr [9] 0->v.s 4= .ptr [0] 0->v.s 7= .int .i64 0->v.s 8= .int .i64 (j:Int)->Ag v.m [9] 0 7=some (Hn m)->(∃q,Ag v.m [0] 0 7=some q)->Be S [] Nc Q v g:=by
 intro f;induction f with
 |zero=>
  intro j m v g hf p n u h6 e h7 h8 m0 mq;refine Af Nc.eq_1 ?_;have d1:((j:Int)<l.length)=False:=eq_false O;have ca:=AT l;rw[QO O]at p;obtain rfl:z=m:=p;simp only[Hb,↓C2,G7,simprocAttr,u,h8,ca,d1];exact hQ _ h6 e h7 m0 mq
 |succ f ih=>
  intro j m v g hf p n u h6 e h7 h8 m0 mq;refine Af Nc.eq_1 ?_;have d1:((j:Int)<l.length)=True:=eq_true O;have ca:=AT l;have b:j<l.length:=O
  have w:=DB b;rw[Qo b]at p;obtain⟨m1,y,T,p⟩:=p;generalize l[j]=x at w T;have ih:=ih (j+1) m1;have t:=T.run;obtain⟨ma,ia,ea⟩:=v;obtain⟨q,mq⟩:=mq;simp only at n u h6 e h7 h8 m0 mq;have r:∀k,(9=ea+k)=False:=λk=>eq_false O
  have a:∀k,(ea+k=9)=False:=λk=>eq_false O
  have i:=nJ (j:=j);have sa:IntKind.i64.wrap ((j:Int)+1)=((j+1:Nat):Int):=Hy O O;generalize Is y=rt at t;simp only[Hn,HH,Qe,Qd]at t m0
  repeat' (first|(refine Au.intro (Am (by simp[AV,AF,Hu,Ai,Ac,Hd.ev,Cq,h6,r,a,ka])) ?_)|simp (disch:=first|assumption|omega)only[↓C2,G9,simprocAttr,Hm,u,h6,e,h7,h8,ca,d1,w,i,Qg,sa,m0,Ab ka,t,aWN,Ut,pO,Qp,and_self])
  refine ih _ _ O p Xa u h6 e h7 rfl (Az rfl) ⟨q,?_⟩;simp (disch:=omega)only[Ut];exact mq
def aJh(r:Int)(h0:0<=r)(t:r<65536)(nl:Bool)(l:List Bs)(hn:l.length<=40){z:Md}(j:gY (OA Sy (300+r)) l z):aND [.int .u16 r,.slice nl [] (strsD l)]=some (.tup [.agg (Hn z),.bool true]):=by
 refine Al (Qa rfl) ?_;have h:aEo 11=some (Ac DW):=rfl;unfold aDr;have u:=gI Sy (300+r) rfl O (by have:=Vi;omega);have s:IntKind.i64.wrap r=r:=Hy O O;have y:IntKind.i64.wrap (300+r)=300+r:=Hy O O;generalize OA Sy (300+r)=m at *;unfold Sy at u;simp only[Hn,HH,Qe,Qd]at u ⊢;simp (disch:=first|assumption|omega)only[Hb,↓C2,G7,simprocAttr,Hm,Ae aEo 34,u,s,y];refine aBr h (z:=z) hn (λo n p k w x=>?_) l.length 0 m _ _ O j (Qa rfl) rfl rfl rfl rfl rfl (Az rfl) ⟨[.bool false,.int .i64 0,.str [],.slice true [] [],.slice true [] [],.nilptr,.int .i64 0],?_⟩
 ·obtain⟨q,x⟩:=x;simp only[Hn,HH,Qe,Qd]at w;have v:∀{m:Ha} {i:Id} {a b c d e f g:D},Ag (m.put i 0 [a,b,c,d,e,f,g]) i 0 7=some [a,b,c,d,e,f,g]:=Az rfl
  repeat' (first|(refine Au.intro (Am ?_) ?_;first|rfl|simp[AV,AF,Hu,Ai,Ac])|simp (disch:=first|assumption|omega)only[↓C2,G9,simprocAttr,Hm,n,p,k,w,x,v,HU,AW,QS,Qp,and_self])
  all_goals exact Y6
 ·simp (disch:=decide)only[AG];exact Az rfl
def nD(t:Tr)(p:Bs)(rs:List Rw):Prop:=(∀r∈rs,(t.get (An 2 p r.1)).isSome=!r.2.2)∧∀n y,1<=n->n<=30->t.get (An 2 p n)=some y->∃r∈rs,r.1=n
def yE(v:Vw)(t:Tr)(p:Bs):Prop:=(t.get (An 1 p 0)=none∧∀n,1<=n->n<=30->t.get (An 2 p n)=none)∨
 ∃x,t.get (An 1 p 0)=some x∧(A_ x).2=0∧A0 v.ms p≠-1∧BU (A_ x).1 (AL v p).1=false∧nD t p (A_ x).1.rs
structure Hv (m:Md):Prop where
 key:∀q x,m.tr.get q=some x->Bl (Ao q).1 (Ao q).2.1 (Ao q).2.2=0
 sec:∀p,Ay p=0->yE m.vw m.tr p
 mts:Og m.vw.ms
 kl:m.vw.ks.length<=24
def IA{v w:Vw}{t t':Tr}{p:Bs}(c:Ay p=0)(h:yE v t p)(hg:∀q,(Ao q).2.1=p->((Ao q).1=1∨(Ao q).1=2)->Bl (Ao q).1 (Ao q).2.1 (Ao q).2.2=0->t'.get q=t.get q)
  (j:A0 v.ms p≠-1->A0 w.ms p≠-1∧(AL w p).1=(AL v p).1):yE w t' p:=by
 have z:t'.get (An 1 p 0)=t.get (An 1 p 0):=by
  have e:=Bn (IB c);exact hg _ (by rw[e]) (by rw[e];exact .inl rfl) (by rw[e];exact IB c)
 have g2:∀n,1<=n->n<=30->t'.get (An 2 p n)=t.get (An 2 p n):=λn u f=>by
  have s:=LF c ⟨u,f⟩;have e:=Bn s;exact hg _ (by rw[e]) (by rw[e];exact .inr rfl) (by rw[e];exact s)
 rcases h with ⟨u,f⟩|⟨x,u,f,i,h4,m,h6⟩
 ·exact .inl ⟨z.trans u,λn a b=>(g2 n a b).trans (f n a b)⟩
 ·obtain⟨k,g⟩:=j i;refine .inr ⟨x,z.trans u,f,k,by rw[g];exact h4,λr j=>?_,λn y a b hy=>h6 n y a b ((g2 n a b).symm.trans hy)⟩;have o:=Cc (Dm f) r j;rw[g2 r.1 o.1 o.2];exact m r j
def Pc{t:Tr}(g:Tr.Ord t.lst)(s:∀q x,t.get q=some x->Bl (Ao q).1 (Ao q).2.1 (Ao q).2.2=0){l:List Op1}(hl:H6 l):∀q x,(BK l t).get q=some x->Bl (Ao q).1 (Ao q).2.1 (Ao q).2.2=0:=λq x w=>by
 obtain⟨u,y⟩:=MF l g;rw[Tr.get_lst q _ u]at w;rcases y _ (Tr.getL_some w)with i|⟨z,j,p,m⟩
 ·exact s q x (by rw[Tr.get_lst q _ g];exact Tr.getL_mem g i)
 ·simp only[ZC]at m;rw[m.1];exact(hl.ok z j).2 O
def CM{m:Md}{o:Oc}(f:Hv m)(h:Hv ⟨o.vw,BK o.ops m.tr,m.room⟩):Hv (CO m o).1:=by
 unfold CO;split
 ·exact f
 ·exact h
def Vh{m:Md}{o:Oc}(f:Hv m)(g:Tr.Ord m.tr.lst)(hl:H6 o.ops)(b:∀x∈o.ops,x.1≠3∧(Ao x.2.1).1≠1∧(Ao x.2.1).1≠2)(z:o.vw.ms=m.vw.ms)(j:o.vw.ks.length<=24):Hv ⟨o.vw,BK o.ops m.tr,m.room⟩:=by
 refine⟨Pc g f.key hl,λp c=>IA c (f.sec p c) (λq n e2 _=>?_) (λh=>?_),by rw[show(⟨o.vw,BK o.ops m.tr,m.room⟩:Md).vw=o.vw from rfl,z];exact f.mts,j⟩
 ·refine Pf g λx w=>?_
  obtain⟨u,y,i⟩:=b x w;unfold bW;rw[if_neg u];rintro rfl;rcases e2 with e2|e2
  ·exact y e2
  ·exact i e2
 ·show A0 o.vw.ms p≠-1∧(AL o.vw p).1=(AL m.vw p).1;unfold AL;rw[z];exact⟨h,rfl⟩
def pW{m:Md}(f:Hv m)(v:Tr.Ord m.tr.lst){p:Bs}{l:List Op1}(hl:H6 l)(b:∀x∈l,x.1≠3∧(Ao x.2.1).2.1=p)(g:yE m.vw (BK l m.tr) p):Hv ⟨m.vw,BK l m.tr,m.room⟩:=by
 refine⟨Pc v f.key hl,λk o=>?_,f.mts,f.kl⟩;by_cases e:k=p
 ·rw[e];exact g
 ·refine IA o (f.sec k o) (λq n _ _=>Pf v λx w=>?_) (λh=>⟨h,rfl⟩);obtain⟨u,y⟩:=b x w;unfold bW;rw[if_neg u];rintro rfl;exact e (n.symm.trans y)
def FI{f:Int->Bs}:∀(ns:List Int){t:Tr},Tr.Ord t.lst->∀{n:Int},n∈ns->(BK (ns.map λn=>((2:Int),f n,([]:Bs))) t).get (f n)=none
 |[],t,h,n,hn=>by cases hn
 |k::ns,t,h,n,hn=>by
  show(BK (ns.map _) (DJ (2,f k,[]) t)).get (f n)=none;have y:=(DI (2,f k,[]) h).1;by_cases w:n∈ns
  ·exact FI ns y w
  ·have e:n=k:=(Qv.1 hn).elim id (λh=>absurd h w);subst e;by_cases q:∃j∈ns,f j=f n
   ·obtain⟨j,b,u⟩:=q;have i:=FI (f:=f) ns y b;rw[u]at i;exact i
   ·rw[Gv ns y (λj b e=>q ⟨j,b,e⟩),O9,Tr.get_del h,if_pos rfl]
def ID:∀{l:List Rw} {a:Int},Cn l a=true->l.Pairwise λx y=>x.1<y.1
 |[],a,_=>List.Pairwise.nil
 |x::l,a,h=>by
  simp only[Cn,Qz,decide_eq_true_eq]at h;exact QY.2 ⟨λy o=>(NF h.2 y o).1,ID h.2⟩
def bQ{l:List Rw}(h:l.Pairwise λx y=>x.1<y.1){a b:Rw}(r:a∈l)(o:b∈l)(e:a.1=b.1):a=b:=by
 obtain⟨i,hi,rfl⟩:=QW r;obtain⟨j,q,rfl⟩:=QW o;rcases ZN i j with c|rfl|c
 ·have:=QR.1 h i j hi q c;omega
 ·rfl
 ·have:=QR.1 h j i q hi c;omega
def O5{v:Vw}{t:Tr}{p:Bs}(h:yE v t p):nD t p (Ei (B1 (FU t p))).rs∧(∀s,B1 (FU t p)=some s->t.get (An 1 p 0)≠none∧BU s (AL v p).1=false):=by
 unfold FU B1;rcases h with ⟨u,f⟩|⟨x,u,f,i,q,m⟩
 ·rw[u];refine⟨⟨λr j=>(by cases j),λn y a b o=>?_⟩,λs g=>(by cases g)⟩;rw[f n a b]at o;cases o
 ·rw[u];have e:¬((some x).isSome=false∨(A_ ((some x).getD [])).2≠0):=by
   rintro(h|h)
   ·cases h
   ·exact h f
  simp only at e ⊢;rw[if_neg e];exact⟨m,λs g=>by
   simp only[Qx]at g;subst g;exact⟨U,q⟩⟩
def aGo{v:Vw}{t:Tr}{p:Bs}{s:Sc}(n:t.get (An 1 p 0)=some (BS s))(g:SI s)(j:A0 v.ms p≠-1)(o:BU s (AL v p).1=false)(hd:nD t p s.rs):yE v t p:=by
 have e:=Wr g;refine .inr ⟨_,n,by rw[e],j,by rw[e];exact o,X6⟩
section
variable{t:Tr}{p:Bs}{rs:List Rw}
def pK{a b:Int}(c:Ay p=0)(x:1<=a∧a<=30)(o:1<=b∧b<=30)(h:An 2 p a=An 2 p b):a=b:=(Va (LF c x) (LF c o) h).2.2
def NO{b:Int}(c:Ay p=0)(o:1<=b∧b<=30):An 2 p b≠An 1 p 0:=λh=>by have:=(Va (LF c o) (IB c) h).1;omega
def aHY(ho:Tr.Ord t.lst)(w:Ay p=0){x:Bs}{nd:List (Int×Bs)}(o:∀z∈nd,1<=z.1∧z.1<=30){gone:List Int}(hg:∀n∈gone,1<=n∧n<=30)(j:∀z∈nd,z.1∉gone)(c:nd.length<=1):
  let t':=BK ([((1:Int),An 1 p 0,x)]++nd.map (λz=>((1:Int),An 2 p z.1,z.2))++gone.map (λn=>((2:Int),An 2 p n,([]:Bs)))) t
  t'.get (An 1 p 0)=some x∧∀n,1<=n->n<=30->t'.get (An 2 p n)=if n∈gone then none else match nd.find? (λz=>decide (z.1=n))with|some z=>some z.2|none=>t.get (An 2 p n):=by
 intro t';have g:Tr.Ord (DJ (1,An 1 p 0,x) t).lst:=(DI _ ho).1;have i:t'=BK (gone.map (λn=>((2:Int),An 2 p n,([]:Bs)))) (BK (nd.map (λz=>((1:Int),An 2 p z.1,z.2))) (DJ (1,An 1 p 0,x) t)):=by
  show BK _ t=_;rw[MG,MG];rfl
 have d:Tr.Ord (BK (nd.map (λz=>((1:Int),An 2 p z.1,z.2))) (DJ (1,An 1 p 0,x) t)).lst:=aGO g;have m:∀q,(DJ (1,An 1 p 0,x) t).get q=if q=An 1 p 0 then some x else t.get q:=λq=>by rw[oS,Tr.get_put ho]
 have h:(BK (nd.map (λz=>((1:Int),An 2 p z.1,z.2))) (DJ (1,An 1 p 0,x) t)).get (An 1 p 0)=some x∧∀n,1<=n->n<=30->(BK (nd.map (λz=>((1:Int),An 2 p z.1,z.2))) (DJ (1,An 1 p 0,x) t)).get (An 2 p n)=match nd.find? (λz=>decide (z.1=n))with|some z=>some z.2|none=>t.get (An 2 p n):=by
  match nd,c,o with
  |[],_,_=>exact⟨by show(DJ _ t).get _=_;rw[m,if_pos rfl],λn a b=>by show(DJ _ t).get _=_;rw[m,if_neg (NO w ⟨a,b⟩)];rfl⟩
  |[z],_,o=>
   have y:=o z Qj;have u:∀q,(BK ([z].map (λz=>((1:Int),An 2 p z.1,z.2))) (DJ (1,An 1 p 0,x) t)).get q=if q=An 2 p z.1 then some z.2 else(DJ (1,An 1 p 0,x) t).get q:=λq=>by
    show(DJ (1,An 2 p z.1,z.2) _).get q=_;rw[oS,Tr.get_put g]
   refine⟨by rw[u,if_neg (λe=>NO w y e.symm),m,if_pos rfl],λn a b=>?_⟩;rw[u,m,if_neg (NO w ⟨a,b⟩)];by_cases e:z.1=n
   ·subst e;simp
   ·rw[if_neg (λv=>e (pK w ⟨a,b⟩ y v).symm)];simp[e]
 refine⟨?_,λn a b=>?_⟩
 ·rw[i,Gv (f:=λn=>An 2 p n) gone d (λn r=>NO w (hg n r))];exact h.1
 ·rw[i];by_cases r:n∈gone
  ·rw[if_pos r];exact FI (f:=λn=>An 2 p n) gone d r
  ·rw[if_neg r,Gv (f:=λn=>An 2 p n) gone d (λk s e=>r (by rw[←pK w (hg k s) ⟨a,b⟩ e];exact s))];exact h.2 n a b
end
section
variable{m:Md}{p:Bs}
def pX(f:Hv m)(v:Tr.Ord m.tr.lst)(k:Ay p=0)(hr:A0 m.vw.ms p≠-1){s:Sc}(i:SI s)(o:BU s (AL m.vw p).1=false){nd:List (Int×Bs)}{gone:List Int}(q:∀z∈nd,1<=z.1∧z.1<=30)(e:∀n∈gone,1<=n∧n<=30)(j:∀z∈nd,z.1∉gone)(c:nd.length<=1)
  (h:∀r∈s.rs,(if r.1∈gone then none else match nd.find? (λz=>decide (z.1=r.1))with|some z=>some z.2|none=>m.tr.get (An 2 p r.1)).isSome=!r.2.2)
  (t:∀n,1<=n->n<=30->n∉gone->(nd.find? (λz=>decide (z.1=n))=none->∃y,m.tr.get (An 2 p n)=some y)->∃r∈s.rs,r.1=n)
  (hl:H6 ([((1:Int),An 1 p 0,BS s)]++nd.map (λz=>((1:Int),An 2 p z.1,z.2))++gone.map (λn=>((2:Int),An 2 p n,([]:Bs))))):
  Hv ⟨m.vw,BK ([((1:Int),An 1 p 0,BS s)]++nd.map (λz=>((1:Int),An 2 p z.1,z.2))++gone.map (λn=>((2:Int),An 2 p n,([]:Bs)))) m.tr,m.room⟩:=by
 obtain⟨g1,g2⟩:=aHY v k (x:=BS s) q e j c;have w:=Bn (IB k);refine pW f v (p:=p) hl (λx hx=>?_) (aGo g1 i hr o ⟨λr hr=>?_,λn y a b hy=>?_⟩)
 ·rcases Qw.1 hx with hx|hx
  ·rcases Qw.1 hx with hx|hx
   ·rw[Qb.1 hx];exact⟨X2,by rw[w]⟩
   ·obtain⟨z,u,rfl⟩:=Ql.1 hx;exact⟨X2,by rw[Bn (LF k (q z u))]⟩
  ·obtain⟨n,g,rfl⟩:=Ql.1 hx;exact⟨X1,by rw[Bn (LF k (e n g))]⟩
 ·have o:=Cc i r hr;rw[g2 r.1 o.1 o.2];exact h r hr
 ·rw[g2 n a b]at hy;by_cases g:n∈gone
  ·rw[if_pos g]at hy;cases hy
  ·rw[if_neg g]at hy;refine t n a b g λhf=>?_
   rw[hf]at hy;exact⟨y,hy⟩
def aHI{s:Sc}{q:Int}(v:BU s q=false)(hl:s.la≠30):BU (B_ (AZ s) q) q=false:=by
 obtain⟨k,u,f,j,r,z⟩:=Eu v;have y:AR (AZ s) q=AR s q:=rfl;have p:1<=AR s q:=Ya
 have o:(B_ (AZ s) q).rs.length<=(AR s q).toNat:=by
  unfold B_;simp only[Zp];unfold Bm;rw[y];omega
 obtain⟨rs,c⟩:=TO (s:=s) (q:=q) p;have b:Cn (AZ s).rs 0=true:=PX r (by show 0<s.la+1;omega) (by rw[z];show s.la<s.la+1;omega);have a:Cn (B_ (AZ s) q).rs 0=true:=My _ (Q4 0) b;have t:Gl (B_ (AZ s) q).rs=s.la+1:=by rw[CK,c];simp
 have x:AR (B_ (AZ s) q) q=AR s q:=rfl;unfold BU;rw[a,t,x];have w:(B_ (AZ s) q).mx=s.mx:=rfl;have m:(B_ (AZ s) q).la=s.la+1:=rfl;rw[w,m,decide_eq_true k,decide_eq_true (by omega:0<=s.mx∧s.mx<=6),decide_eq_true (by omega:0<=s.la+1∧s.la+1<=30),decide_eq_true (rfl:s.la+1=s.la+1),decide_eq_false O];rfl
def TJ(hF:Hv m)(i:Tr.Ord m.tr.lst)(hp:Ay p=0)(hr:A0 m.vw.ms p≠-1){cas:Int}{data:Bs}(o:H6 (DX m.vw p (Ei (B1 (FU m.tr p))) cas data).ops):Hv (CO m (DX m.vw p (Ei (B1 (FU m.tr p))) cas data)).1:=by
 refine CM hF ?_;have oa:=Ec (FU m.tr p);obtain⟨x,_⟩:=O5 (hF.sec p hp);generalize Ei (B1 (FU m.tr p))=s at *;by_cases hf:(B2 s (AL m.vw p).1 (AL m.vw p).2 cas data.length).2.2.2≠0
 ·rw[show DX m.vw p s cas data=FJ m.vw (B2 s (AL m.vw p).1 (AL m.vw p).2 cas data.length).2.2.2 from if_pos hf];exact hF
 have ra:Il s (AL m.vw p).1 (AL m.vw p).2 cas data.length=0:=by
  apply Classical.byContradiction;intro w;apply hf;unfold B2;rw[if_pos w];exact w
 have hw:DX m.vw p s cas data=Sq (He m.vw) p (B_ (AZ s) (AL m.vw p).1,s.la+1,Fq (AZ s) (AL m.vw p).1,0) data:=by
  have:B2 s (AL m.vw p).1 (AL m.vw p).2 cas data.length=(B_ (AZ s) (AL m.vw p).1,s.la+1,Fq (AZ s) (AL m.vw p).1,0):=by unfold B2;rw[if_neg (λc=>c ra)]
  rw[show DX m.vw p s cas data=Sq (He m.vw) p (B2 s (AL m.vw p).1 (AL m.vw p).2 cas data.length) data from if_neg hf,this]
 rw[hw]at o ⊢;have ma:BU s (AL m.vw p).1=false∧s.la≠30:=by
  refine⟨W_ ra,λu=>?_⟩;unfold Il at ra
  repeat' split at ra
  all_goals first|(cases ra;done)|exact absurd u ‹_›
 obtain⟨da,_⟩:=aPK oa ma.1 ma.2;have fb:=aHI ma.1 ma.2;obtain⟨b0,b1,b2,b3,b4,b5⟩:=Eu ma.1;have ea:(Sq (He m.vw) p (B_ (AZ s) (AL m.vw p).1,s.la+1,Fq (AZ s) (AL m.vw p).1,0) data).ops=[((1:Int),An 1 p 0,BS (B_ (AZ s) (AL m.vw p).1))]++[(s.la+1,data)].map (λz=>((1:Int),An 2 p z.1,z.2))++(Fq (AZ s) (AL m.vw p).1).map (λn=>((2:Int),An 2 p n,([]:Bs))):=by
  simp[Sq,Bk,Oc.op,He]
 rw[ea]at o ⊢;show Hv ⟨m.vw,_,m.room⟩;have ja:1<=AR s (AL m.vw p).1:=Ya
 have v:Bm (AZ s) (AL m.vw p).1<=s.rs.length:=by
  unfold Bm;rw[show AR (AZ s) (AL m.vw p).1=AR s (AL m.vw p).1 from rfl];simp only[AZ,QD,Qk,Qy];omega
 have db:(B_ (AZ s) (AL m.vw p).1).rs=s.rs.drop (Bm (AZ s) (AL m.vw p).1)++[(s.la+1,false,false)]:=by
  show Z9 _ (s.rs++_)=_;rw[Q8 v]
 have qa:Fq (AZ s) (AL m.vw p).1=(s.rs.take (Bm (AZ s) (AL m.vw p).1)).map (·.1):=by
  show(List.take _ (s.rs++_)).map _=_;rw[List.take_append_of_le_length v]
 have d:=ID b4;have ta:∀r∈s.rs,r.1<=s.la:=λr hr=>by
  have:=NF b4 r hr;rw[←CK,b5]at this;exact this.2
 have ba:∀r∈s.rs,1<=r.1∧r.1<=30:=Cc oa;generalize Bm (AZ s) (AL m.vw p).1=k at *;generalize jb:B_ (AZ s) (AL m.vw p).1=s' at *;generalize Fq (AZ s) (AL m.vw p).1=gone at *;have f:s.rs=s.rs.take k++s.rs.drop k:=(QA k s.rs).symm;have q:∀n∈gone,∃r∈s.rs.take k,r.1=n:=λn g=>by
  rw[qa]at g;obtain⟨r,t,w⟩:=Ql.1 g;exact⟨r,t,w⟩
 refine pX hF i hp hr da fb (λz hz=>?_) (λn g=>?_) (λz hz g=>?_) (Qf _) (λr hr=>?_) (λn a b g hy=>?_) o
 ·rw[Qb.1 hz];exact⟨by show 1<=s.la+1;omega,by show s.la+1<=30;omega⟩
 ·obtain⟨r,t,rfl⟩:=q n g;exact ba r (QJ t)
 ·rw[Qb.1 hz]at g;obtain⟨r,t,w⟩:=q _ g;have:=ta r (QJ t);simp only at w;omega
 ·rw[db]at hr;rcases Qw.1 hr with hr|hr
  ·have hm:=Q0 hr;have j:r.1∉gone:=λg=>by
    obtain⟨r2,t,w⟩:=q _ g;have e:=bQ d (QJ t) hm w;subst e;rw[f,Q2]at d;have:=d.2.2 r2 t r2 hr;omega
   rw[if_neg j];have hl:=ta r hm;have e:([(s.la+1,data)]:List (Int×Bs)).find? (λz=>decide (z.1=r.1))=none:=by
    simp only[ZV,Z1];rw[decide_eq_false O]
   rw[e];exact x.1 r hm
  ·rw[Qb.1 hr];have j:s.la+1∉gone:=λg=>by
    obtain⟨r2,t,w⟩:=q _ g;have:=ta r2 (QJ t);omega
   simp only;rw[if_neg j];simp
 ·rw[db];by_cases e:n=s.la+1
  ·exact⟨_,Zw _ (Qb.2 rfl),e.symm⟩
  ·obtain⟨y,hy⟩:=hy (by simp only[ZV,Z1];rw[decide_eq_false (λh=>e h.symm)]);obtain⟨r,hr,rfl⟩:=x.2 n y a b hy;rw[f]at hr;rcases Qw.1 hr with hr|hr
   ·exact absurd (by rw[qa];exact Ql.2 ⟨r,hr,rfl⟩) g
   ·exact⟨r,List.mem_append_left _ hr,rfl⟩
end
def SW(ns:List Int)(c N:Nat):∀(l:List Rw)(j:Nat),(DT ns c N j l).map (·.1)=l.map (·.1)∧∀a∈DT ns c N j l,∃r∈l,a.1=r.1∧((a=r∧(r.2.2=true∨a=lS c r∧r.1∈CG ns N j l∨(l.Pairwise (λx y=>x.1<y.1)->r.1∉CG ns N j l)))∨(a=lS c r∧r.2.2=false∧r.1∈CG ns N j l))
 |[],j=>⟨rfl,λa h=>Xc⟩
 |x::l,j=>by
  obtain⟨s,g⟩:=SW ns c N l (j+1);unfold DT CG;by_cases v:GS ns N j x=true
  ·have q:x.2.2=false:=by
    unfold GS at v;simp only[Qz,Zm]at v;exact v.2
   rw[if_pos v,if_pos v];refine⟨by rw[QH,QH,qT,s],λa hr'=>?_⟩;rcases Qv.1 hr' with rfl|hr'
   ·exact⟨x,Qj,qT _ _,.inr ⟨rfl,q,Qj⟩⟩
   ·obtain⟨r,z,w,m⟩:=g a hr';refine⟨r,Qh _ z,w,?_⟩;rcases m with ⟨rfl,h|⟨u,f⟩|h⟩|⟨u,f,i⟩
    ·exact .inl ⟨rfl,.inl h⟩
    ·exact .inl ⟨rfl,.inr (.inl ⟨u,Qh _ f⟩)⟩
    ·refine .inl ⟨rfl,.inr (.inr λk=>?_)⟩;rw[QY]at k;rw[Qv,not_or];have:=k.1 a z;exact⟨O,h k.2⟩
    ·exact .inr ⟨u,f,Qh _ i⟩
  ·rw[if_neg v,if_neg v];refine⟨by rw[QH,QH,s],λa hr'=>?_⟩;rcases Qv.1 hr' with rfl|hr'
   ·refine⟨a,Qj,rfl,.inl ⟨rfl,.inr (.inr λk n=>?_)⟩⟩;rw[QY]at k;obtain⟨y,o,e⟩:=Lg ns N l (j+1) _ n;have:=k.1 y o;omega
   ·obtain⟨r,z,w,m⟩:=g a hr';refine⟨r,Qh _ z,w,?_⟩;rcases m with ⟨rfl,h|⟨u,f⟩|h⟩|⟨u,f,i⟩
    ·exact .inl ⟨rfl,.inl h⟩
    ·exact .inl ⟨rfl,.inr (.inl ⟨u,f⟩)⟩
    ·exact .inl ⟨rfl,.inr (.inr λk=>h (QY.1 k).2)⟩
    ·exact .inr ⟨u,f,i⟩
def Iw(ns:List Int)(N:Nat):∀(l:List Rw)(j:Nat),∀n∈CG ns N j l,∃r∈l,r.1=n∧r.2.2=false
 |[],j,n,h=>Xc
 |x::l,j,n,h=>by
  unfold CG at h;split at h
  ·rename_i v;have q:x.2.2=false:=by
    unfold GS at v;simp only[Qz,Zm]at v;exact v.2
   rcases Qv.1 h with rfl|h
   ·exact⟨x,Qj,rfl,q⟩
   ·obtain⟨r,u,y⟩:=Iw ns N l (j+1) n h;exact⟨r,Qh _ u,y⟩
  ·obtain⟨r,u,y⟩:=Iw ns N l (j+1) n h;exact⟨r,Qh _ u,y⟩
section
variable{m:Md}{p:Bs}
def TK(hF:Hv m)(v:Tr.Ord m.tr.lst)(c:Ay p=0)(j:A0 m.vw.ms p≠-1){s s':Sc}(hs:SI s')(k:BU s' (AL m.vw p).1=false){gone:List Int}(x:nD m.tr p s.rs)(w:SI s)
  (hg:∀n∈gone,∃r∈s.rs,r.1=n) (u:∀r'∈s'.rs,∃r∈s.rs,r'.1=r.1∧((r.1∈gone∧r'.2.2=true)∨(r.1∉gone∧r'.2.2=r.2.2))) (f:∀r∈s.rs,r.1∉gone->∃r'∈s'.rs,r'.1=r.1) {e:Int} (o:H6 (Dz m.vw p s' gone e).ops):Hv (CO m (Dz m.vw p s' gone e)).1:=by
 refine CM hF ?_;by_cases he:e≠0
 ·rw[show Dz m.vw p s' gone e=FJ m.vw e from if_pos he];exact hF
 have hw:Dz m.vw p s' gone e=Ix (He m.vw) p s' gone:=if_neg he;rw[hw]at o ⊢;have ea:(Ix (He m.vw) p s' gone).ops=[((1:Int),An 1 p 0,BS s')]++([]:List (Int×Bs)).map (λz=>((1:Int),An 2 p z.1,z.2))++gone.map (λn=>((2:Int),An 2 p n,([]:Bs))):=by
  simp[Ix,Bk,Oc.op,He]
 rw[ea]at o ⊢;show Hv ⟨m.vw,_,m.room⟩;refine pX hF v c j hs k (λz hz=>(by cases hz)) (λn g=>?_) (λz hz=>(by cases hz)) (Qn _) (λr' eb=>?_) (λn a b g hy=>?_) o
 ·obtain⟨r,i,rfl⟩:=hg n g;exact Cc w r i
 ·obtain⟨r,i,t,⟨q,h5⟩|⟨q,h5⟩⟩:=u r' eb
  ·rw[t,if_pos q,h5];rfl
  ·rw[t,if_neg q,h5];exact x.1 r i
 ·obtain⟨y,hy⟩:=hy rfl;obtain⟨r,i,rfl⟩:=x.2 n y a b hy;exact f r i g
def RC(hF:Hv m)(v:Tr.Ord m.tr.lst)(hp:Ay p=0)(j:A0 m.vw.ms p≠-1){s:Sc}(hs:B1 (FU m.tr p)=some s){ns:List Int}{c:Nat}(t:c=280∨c=281∨c=282)(o:H6 (Dz m.vw p (Bf s ns c).1 (if c=282 then(Bf s ns c).2.1 else []) (Bf s ns c).2.2).ops):
  Hv (CO m (Dz m.vw p (Bf s ns c).1 (if c=282 then(Bf s ns c).2.1 else []) (Bf s ns c).2.2)).1:=by
 obtain⟨x,a⟩:=O5 (hF.sec p hp);have ta:=(a s hs).2;rw[hs]at x;replace x:nD m.tr p s.rs:=x;have w:=Lk hs;have k:=w.bad;by_cases hz:s.rs=[]
 ·have e:Bf s ns c=(s,[],6):=by unfold Bf;rw[if_neg (by rw[k];decide),if_pos hz]
  rw[e];refine CM hF ?_;rw[show Dz m.vw p (s,([]:List Int),(6:Int)).1 (if c=282 then((s,([]:List Int),(6:Int)):Sc×List Int×Int).2.1 else []) (6:Int)=FJ m.vw 6 from if_pos V];exact hF
 have e:Bf s ns c=({s with rs:=DT ns c s.rs.length 0 s.rs},CG ns s.rs.length 0 s.rs,0):=by unfold Bf;rw[if_neg (by rw[k];decide),if_neg hz]
 rw[e]at o ⊢;obtain⟨t1,t2⟩:=SW ns c s.rs.length s.rs 0;have va:=Iw ns s.rs.length s.rs 0;have d:=ID (GZ k).2.2.2.2.1;have pa:s.nl=false:=by cases h:s.nl with|true=>exact absurd (w.nl h) hz|false=>rfl
 have jb:SI {s with rs:=DT ns c s.rs.length 0 s.rs}:=⟨by rw[fF t1];exact k,λh=>by simp only at h;rw[pa]at h;cases h⟩;have ua:BU {s with rs:=DT ns c s.rs.length 0 s.rs} (AL m.vw p).1=false:=by rw[fF t1];exact ta
 refine TK hF v hp j jb ua x w (λn g=>?_) (λr' eb=>?_) (λr b _=>?_) o
 ·by_cases h:c=282
  ·rw[if_pos h]at g;obtain⟨r,u,f,_⟩:=va n g;exact⟨r,u,f⟩
  ·rw[if_neg h]at g;cases g
 ·obtain⟨r,u,f,i⟩:=t2 r' eb;refine⟨r,u,f,?_⟩;by_cases h:c=282
  ·rw[if_pos h];rcases i with ⟨rfl,h4|⟨h4,q⟩|h4⟩|⟨h4,q,h6⟩
   ·refine .inr ⟨λhm=>?_,rfl⟩;obtain⟨y,y1,y2,y3⟩:=va _ hm;have:=bQ d y1 u y2;subst this;rw[h4]at y3;cases y3
   ·refine .inl ⟨q,?_⟩;rw[h4];unfold lS;subst h;rfl
   ·exact .inr ⟨h4 d,rfl⟩
   ·refine .inl ⟨h6,?_⟩;rw[h4];unfold lS;subst h;rfl
  ·rw[if_neg h];refine .inr ⟨ZR,?_⟩;have z:r.2.2=false->(lS c r).2.2=false:=λ_=>by
    unfold lS;split
    ·rfl
    split
    ·rfl
    ·omega
   rcases i with ⟨rfl,_⟩|⟨h4,q,_⟩
   ·rfl
   ·rw[h4,z q,q]
 ·have hm:r.1∈(DT ns c s.rs.length 0 s.rs).map (·.1):=by rw[t1];exact Ql.2 ⟨r,b,rfl⟩
  obtain⟨r',u,f⟩:=Ql.1 hm;exact⟨r',u,f⟩
def aCi(hF:Hv m)(ho:Tr.Ord m.tr.lst)(hp:Ay p=0)(hr:A0 m.vw.ms p≠-1){j:Int}{cas:Bool}(o:H6 (Dz m.vw p (Cm (Ei (B1 (FU m.tr p))) (AL m.vw p).1 j cas).1 (Cm (Ei (B1 (FU m.tr p))) (AL m.vw p).1 j cas).2.1 (Cm (Ei (B1 (FU m.tr p))) (AL m.vw p).1 j cas).2.2).ops):
  Hv (CO m (Dz m.vw p (Cm (Ei (B1 (FU m.tr p))) (AL m.vw p).1 j cas).1 (Cm (Ei (B1 (FU m.tr p))) (AL m.vw p).1 j cas).2.1 (Cm (Ei (B1 (FU m.tr p))) (AL m.vw p).1 j cas).2.2)).1:=by
 have oa:=Ec (FU m.tr p);obtain⟨t,_⟩:=O5 (hF.sec p hp);generalize Ei (B1 (FU m.tr p))=s at *;by_cases z:BU s (AL m.vw p).1=true∨¬(0<=j∧j<=6)
 ·have e:Cm s (AL m.vw p).1 j cas=(s,[],2):=if_pos z;rw[e];refine CM hF ?_;rw[show Dz m.vw p (s,([]:List Int),(2:Int)).1 ([]:List Int) (2:Int)=FJ m.vw 2 from if_pos V];exact hF
 have e:Cm s (AL m.vw p).1 j cas=(B_ {s with mx:=j,cas:=cas} (AL m.vw p).1,Fq {s with mx:=j,cas:=cas} (AL m.vw p).1,0):=if_neg z;rw[e]at o ⊢;rw[not_or,Decidable.not_not]at z;have ma:BU s (AL m.vw p).1=false:=by simpa using z.1
 have c:=z.2;obtain⟨b0,b1,b2,b3,b4,b5⟩:=Eu ma;generalize g:(AL m.vw p).1=q at *;have ja:1<=AR {s with mx:=j,cas:=cas} q∧AR {s with mx:=j,cas:=cas} q<=6∧(j≠0->AR {s with mx:=j,cas:=cas} q=j):=by
  unfold AR;simp only;split
  ·exact⟨b0.1,b0.2,λh=>absurd ‹_› h⟩
  ·exact⟨O,c.2,λ_=>rfl⟩
 have ka:(B_ {s with mx:=j,cas:=cas} q).rs=s.rs.drop (Bm {s with mx:=j,cas:=cas} q):=rfl;have qa:Fq {s with mx:=j,cas:=cas} q=(s.rs.take (Bm {s with mx:=j,cas:=cas} q)).map (·.1):=rfl;have v:(s.rs.drop (Bm {s with mx:=j,cas:=cas} q)).length<=(AR {s with mx:=j,cas:=cas} q).toNat:=by
  rw[Zp];unfold Bm;simp only;omega
 have d:=ID b4;have a:=My (Bm {s with mx:=j,cas:=cas} q) (Q4 0) b4;have ga:Gl (s.rs.drop (Bm {s with mx:=j,cas:=cas} q))=s.la:=by
  have e3:Gl (s.rs.drop (Bm {s with mx:=j,cas:=cas} q))=Gl s.rs:=by
   rw[CK,CK];by_cases hz:s.rs=[]
   ·rw[hz];simp
   ·have da:Bm {s with mx:=j,cas:=cas} q<s.rs.length:=by
     have:=List.length_pos_iff.2 hz;unfold Bm;simp only;omega
    rw[List.getLast?_drop,if_neg O]
  exact e3.trans b5
 have b:(B_ {s with mx:=j,cas:=cas} q).nl=true->(B_ {s with mx:=j,cas:=cas} q).rs=[]:=λh=>by rw[ka,oa.nl h,List.drop_nil]
 have ob:∀x,1<=x∧x<=6->(x=q∨x=6)->BU (B_ {s with mx:=j,cas:=cas} q) x=false:=λx w i=>by
  have e1:(B_ {s with mx:=j,cas:=cas} q).mx=j:=rfl;have e2:(B_ {s with mx:=j,cas:=cas} q).la=s.la:=rfl;have pa:¬AR (B_ {s with mx:=j,cas:=cas} q) x<((s.rs.drop (Bm {s with mx:=j,cas:=cas} q)).length:Int):=by
   have h6:AR (B_ {s with mx:=j,cas:=cas} q) x=if j=0 then x else j:=rfl
   rw[h6];have h7:AR {s with mx:=j,cas:=cas} q=if j=0 then q else j:=rfl
   rw[h7]at v ja;split
   ·rename_i h0;rw[if_pos h0]at v;rcases i with rfl|rfl<;>omega
   ·rename_i h0;rw[if_neg h0]at v;omega
  unfold BU;rw[ka,a,ga,e1,e2,decide_eq_true w,decide_eq_true c,decide_eq_true b2,decide_eq_true (rfl:s.la=s.la),decide_eq_false pa];rfl
 generalize Bm {s with mx:=j,cas:=cas} q=k at *;generalize B_ {s with mx:=j,cas:=cas} q=s' at *;generalize Fq {s with mx:=j,cas:=cas} q=gone at *;have f:s.rs=s.rs.take k++s.rs.drop k:=(QA k s.rs).symm;refine TK hF ho hp hr ⟨ob 6 V (.inr rfl),b⟩ (by rw[g];exact ob q b0 (.inl rfl)) t oa (λn hn=>?_) (λr' eb=>?_) (λr ea hn=>?_) o
 ·rw[qa]at hn;obtain⟨r,u,y⟩:=Ql.1 hn;exact⟨r,QJ u,y⟩
 ·rw[ka]at eb;have hm:=Q0 eb;refine⟨r',hm,rfl,.inr ⟨λhn=>?_,rfl⟩⟩;rw[qa]at hn;obtain⟨r2,u,y⟩:=Ql.1 hn;rw[f,Q2]at d;have:=d.2.2 r2 u r' eb;omega
 ·rw[ka];rw[f]at ea;rcases Qw.1 ea with h|h
  ·exact absurd (by rw[qa];exact Ql.2 ⟨r,h,rfl⟩) hn
  ·exact⟨r,h,rfl⟩
def vI(hF:Hv m)(v:Tr.Ord m.tr.lst)(w:Ay p=0){s:Sc}(i:B1 (FU m.tr p)=some s){rep:Bs}(o:H6 ({Ek (He m.vw) p s.rs with rep:=rep}:Oc).ops):Hv (CO m {Ek (He m.vw) p s.rs with rep:=rep}).1:=by
 refine CM hF ?_;obtain⟨t,_⟩:=O5 (hF.sec p w);rw[i]at t;replace t:nD m.tr p s.rs:=t;have u:=Lk i;have ea:({Ek (He m.vw) p s.rs with rep:=rep}:Oc).ops=[((2:Int),An 1 p 0,([]:Bs))]++(BD s.rs).map (λn=>((2:Int),An 2 p n,([]:Bs))):=by
  simp[Ek,Bk,Oc.op,He]
 rw[ea]at o ⊢;show Hv ⟨m.vw,_,m.room⟩;have z:∀n∈BD s.rs,1<=n∧n<=30:=λn c=>by
  obtain⟨x,hx,rfl⟩:=Ql.1 c;exact Cc u x (Qr.1 hx).1
 have g:Tr.Ord (DJ (2,An 1 p 0,[]) m.tr).lst:=(DI _ v).1;have h0:∀q,(DJ (2,An 1 p 0,[]) m.tr).get q=if q=An 1 p 0 then none else m.tr.get q:=λq=>by rw[O9,Tr.get_del v]
 have ht:BK ([((2:Int),An 1 p 0,([]:Bs))]++(BD s.rs).map (λn=>((2:Int),An 2 p n,([]:Bs)))) m.tr=BK ((BD s.rs).map (λn=>((2:Int),An 2 p n,([]:Bs)))) (DJ (2,An 1 p 0,[]) m.tr):=by
  rw[MG];rfl
 refine pW hF v (p:=p) o (λx hx=>?_) (.inl ⟨?_,λn a b=>?_⟩)
 ·rcases Qw.1 hx with hx|hx
  ·rw[Qb.1 hx];exact⟨X1,by rw[Bn (IB w)]⟩
  ·obtain⟨n,c,rfl⟩:=Ql.1 hx;exact⟨X1,by rw[Bn (LF w (z n c))]⟩
 ·rw[ht,Gv (f:=λn=>An 2 p n) _ g (λn c=>NO w (z n c)),h0,if_pos rfl]
 ·rw[ht];by_cases c:n∈BD s.rs
  ·exact FI (f:=λn=>An 2 p n) _ g c
  ·rw[Gv (f:=λn=>An 2 p n) _ g (λk hk e=>c (by rw[←pK w (z k hk) ⟨a,b⟩ e];exact hk)),h0,if_neg (NO w ⟨a,b⟩)];cases hg:m.tr.get (An 2 p n)with
   |none=>rfl
   |some y=>
    obtain⟨r,j,rfl⟩:=t.2 n y a b hg;have:=t.1 r j;rw[hg]at this;have hd:r.2.2=false:=by simpa using this.symm
    exact absurd (Ql.2 ⟨r,Qr.2 ⟨j,by rw[hd];rfl⟩,rfl⟩) c
end
def key1{p:Bs}(c:Ay p=0):An 1 p 0=[109,47]++p:=by
 unfold An;rw[if_neg (λe=>e (IB c)),if_pos rfl]
def aUs{p:Bs}{n:Int}(c:Ay p=0)(g:1<=n∧n<=30):An 2 p n=[100,47]++p++[0,UInt8.ofNat (IntKind.u8.wrap n).toNat]:=by
 unfold An;rw[if_neg (λe=>e (LF c g)),if_neg V,if_pos rfl]
def Lw{a b:UInt8}{s p:Bs}:A7 ([a,b]++s) ([a,b]++p)=A7 s p:=by
 show A7 (a::b::s) (a::b::p)=_;rw[ET,ET];simp
def Pd{a b c:UInt8}{s p:Bs}(h:a≠c):A7 ([a,b]++s) ([c,b]++p)=false:=by
 show A7 (a::b::s) (c::b::p)=_;rw[ET,decide_eq_false h];rfl
def TC{p z:Bs}(u:z≠[]):A7 p (z++[47])=Bj p z:=by
 rw[ZW,Eo,EW u];constructor
 ·rintro⟨r,rfl⟩;exact⟨r,U⟩
 ·rintro⟨r,rfl⟩;exact⟨r,U⟩
def dF{p z:Bs}{c:UInt8}(u:Ay z=0):A7 (p++[0,c]) (z++[47])=Bj p z:=by
 have j:(0:UInt8)∉z:=λh=>by have:=(iV u 0 h).1;simp at this
 rw[ZW,Eo,EW (Lm u)];constructor
 ·rintro⟨r,e⟩;rw[QG]at e;rcases Zk.1 e with ⟨x,w,m⟩|⟨x,w,m⟩
  ·cases x with
   |nil=>simp at m
   |cons y x=>
    simp only[Qe,Qd,QM]at m;exact absurd (by rw[w,←m.1];simp) j
  ·cases x with
   |nil=>simp at m
   |cons y x=>
    simp only[Qe,Qd,QM]at m;exact⟨x,by rw[w,←m.1]⟩
 ·rintro⟨r,rfl⟩;exact⟨r++[0,c],U⟩
def g4:Ao (An 4 [] 0)=(4,[],0):=rfl
def g5:Ao (An 5 [] 0)=(5,[],0):=rfl
section
variable{m:Md}
def vJ(t:Hv m)(k:Sk m){z:List Mt}{x:Mt}(e:(Fr m.vw.ms x).1=some z)(o:H6 (MM (He m.vw) false z).ops):Hv (CO m (MM (He m.vw) false z)).1:=by
 refine CM t ?_;have g:=k.tr.ord;have hi:=t.mts.add k.vw.srt e;have s:=(rE k.vw.srt e).1;have b:(MM (He m.vw) false z).ops=[((1:Int),An 4 [] 0,Fo z)]:=Yg
 rw[b]at o ⊢;refine⟨Pc g t.key o,λp c=>IA c (t.sec p c) (λq n e2 _=>Pf g λx w=>?_) (λh=>?_),hi,t.kl⟩
 ·rw[Qb.1 w];unfold bW;rw[if_neg (show ¬((1:Int)=3)by decide)];rintro rfl;rw[g4]at e2;rcases e2 with e2|e2<;>cases e2
 ·obtain⟨a,r,f,j⟩:=Og.get h;obtain⟨u,y⟩:=bJ (v:=(MM (He m.vw) false z).vw) hi ((s a).2 (.inl r)) f;exact⟨u,by rw[j];exact congrArg Jb y⟩
def dP(hF:Hv m)(hM:Sk m){z:Bs}(ht:Ay z=0)(hf:0<=BC m.vw.ms z){nl:Bool}(o:H6 (zE (He m.vw) nl (EG m.vw.ms z) z).ops):Hv (CO m (zE (He m.vw) nl (EG m.vw.ms z) z)).1:=by
 refine CM hF ?_;have i:=hM.tr.ord;have hi:=hF.mts.rem z;have f:=Lm ht;have ea:(zE (He m.vw) nl (EG m.vw.ms z) z).ops=[((1:Int),An 4 [] 0,Fo (EG m.vw.ms z)),(3,[109,47]++z++[47],[]),(3,[100,47]++z++[47],[])]:=Yc
 rw[ea]at o ⊢;refine⟨Pc i hF.key o,λp k=>?_,hi,hF.kl⟩;cases hb:Bj p z with
 |true=>
  refine .inl ⟨?_,λn a b=>?_⟩
  ·show(BK _ m.tr).get _=none;rw[Pe _ i,key1 k];have u:A7 ([109,47]++p) ([109,47]++z++[47])=true:=by rw[QG,Lw,TC f,hb]
   have y:A7 ([109,47]++p) ([100,47]++z++[47])=false:=YP
   simp only[jH,opG,u,y];simp
  ·show(BK _ m.tr).get _=none;rw[Pe _ i,aUs k ⟨a,b⟩];have u:A7 ([100,47]++p++[0,UInt8.ofNat (IntKind.u8.wrap n).toNat]) ([109,47]++z++[47])=false:=by rw[QG,QG];exact Pd V
   have y:A7 ([100,47]++p++[0,UInt8.ofNat (IntKind.u8.wrap n).toNat]) ([100,47]++z++[47])=true:=YQ
   simp only[jH,opG,u,y];simp
 |false=>
  refine IA k (hF.sec p k) (λq t e2 s=>Pf i λx w=>?_) (λh=>?_)
  ·have hq:=NP s;have d:A7 q ([109,47]++z++[47])=false∧A7 q ([100,47]++z++[47])=false:=by
    rw[←hq,t];rcases e2 with e2|e2
    ·rw[e2]at s ⊢;have g:(Ao q).2.2=0:=by
      unfold Bl at s;rw[if_pos rfl]at s;split at s
      ·rename_i c;exact c.1
      ·cases s
     rw[g,key1 k];exact⟨by rw[QG,Lw,TC f,hb],YP⟩
    ·rw[e2]at s ⊢;have g:1<=(Ao q).2.2∧(Ao q).2.2<=30:=by
      unfold Bl at s;rw[if_neg V,if_pos rfl]at s;split at s
      ·rename_i c;exact⟨c.1,c.2.1⟩
      ·cases s
     rw[aUs k g];exact⟨by rw[QG,QG];exact Pd V,YQ⟩
   unfold bW;simp only[Qv,ZS,or_false]at w;rcases w with rfl|rfl|rfl
   ·rw[if_neg (show ¬((1:Int)=3)by decide)];rintro rfl;rw[g4]at e2;rcases e2 with e2|e2<;>cases e2
   ·rw[if_pos rfl];exact d.1
   ·rw[if_pos rfl];exact d.2
  ·obtain⟨a,r,na,j⟩:=Og.get h;have ga:a.1≠z:=λe=>by rw[e,hb]at na;cases na
   obtain⟨u,y⟩:=bJ (v:=(zE (He m.vw) nl (EG m.vw.ms z) z).vw) hi (aGE hf r ga) na;exact⟨u,by rw[j];exact congrArg Jb y⟩
end
def KnT(t:Tr)(k:Kn):Prop:=∀q,(CN k q).2.2=true->CN k q=((t.get q).getD [],(t.get q).isSome,true)
def aUr(t:Tr):KnT t kn0:=λq h=>by rw[aW9]at h;cases h
def KnT.learn{t:Tr}{k:Kn}(h:KnT t k)(q:Bs)(li:Bool):KnT t (A3 k q li (Fa t q)):=λg v=>by
 cases li with
 |true=>
  rw[cV]at v ⊢;exact h g v
 |false=>
  rw[vR]at v ⊢;by_cases e:q=g
  ·subst e;rw[if_pos rfl]
  ·rw[if_neg e]at v ⊢;exact h g v
def aAu{dec:Kn->Oc}{t:Tr}:∀(f:Nat){k:Kn},KnT t k->∃w,KnT t w∧UE dec t f k=dec w
 |0,k,h=>⟨k,h,rfl⟩
 |f+1,k,h=>by
  unfold UE;split
  ·exact⟨k,h,rfl⟩
  ·exact aAu f (h.learn _ _)
def aOz{m:Md}(j:Sk m){a:Ak}{dec:Kn->Oc}(X:HN m.vw a dec):∃k,KnT m.tr k∧FT dec m=dec k∧(dec k).need=[]:=by
 obtain⟨k,u,y⟩:=aAu (dec:=dec) 4 (aUr m.tr);exact⟨k,u,y,by rw[←y];exact(NJ j X).1⟩
def pE{t:Tr}{k:Kn}(h:KnT t k){p:Bs}(s:(AK k p).2.2≠false):AK k p=FU t p:=h _ (by simpa[AK]using s)
def Td{v:Vw}{a:Ak}(h:Im v a=0)(i:9<=a.op)(y:a.op≠17):A0 v.ms a.pa≠-1∧(a.op=18->A0 v.ms a.ot≠-1):=by
 unfold Im at h;by_cases z:Ca a≠0
 ·rw[if_pos z]at h;exact absurd h z
 rw[if_neg z,if_neg O,if_neg O]at h;by_cases g:v.se=true
 ·rw[if_pos g]at h;cases h
 rw[if_neg g]at h;by_cases c:P_ v a=false
 ·rw[if_pos c]at h;cases h
 rw[if_neg c]at h;by_cases j:GN v a=false
 ·rw[if_pos j]at h;cases h
 have j:GN v a=true:=by simpa using j
 unfold GN at j;rw[decide_eq_false (show ¬a.op<=8 by omega),decide_eq_false y]at j;simp only[Bool.false_or,Z_,Qz,decide_eq_true_eq,Bool.or_eq_true]at j;exact⟨j.1,λe=>j.2.resolve_left (λh=>h e)⟩
def DM{m:Md}(f:Hv m){o:Oc}(u:o.ops=[])(y:o.vw.ms=m.vw.ms)(i:o.vw.ks=m.vw.ks):Hv (CO m o).1:=by
 refine CM f ?_;rw[u];refine⟨f.key,λp c=>IA c (f.sec p c) (λ_ _ _ _=>rfl) (λh=>?_),by rw[show(⟨o.vw,BK [] m.tr,m.room⟩:Md).vw=o.vw from rfl,y];exact f.mts,by rw[show(⟨o.vw,BK [] m.tr,m.room⟩:Md).vw=o.vw from rfl,i];exact f.kl⟩;show A0 o.vw.ms p≠-1∧(AL o.vw p).1=(AL m.vw p).1;unfold AL;rw[y];exact⟨h,rfl⟩
def aHF{m:Md}(f:Hv m)(hM:Sk m){a:Ak}{o:Oc}(h:SH m.vw a o)(r:H6 o.ops):Hv (CO m o).1:=by
 have i:=hM.tr.ord;cases h with
 |fail e=>exact DM f rfl rfl rfl
 |flag o b q y=>exact DM f q (by rw[y]) (by rw[y])
 |rot h=>
  refine CM f (Vh f i r (λx w=>?_) rfl f.kl);simp only[uE,Oc.op,He,Qd,Qb]at w;rw[w,g5];exact⟨X2,V,V⟩
 |mnt s e=>exact vJ f hM e r
 |unm j k=>exact dP f hM j k r
 |mak s e e1 v h=>
  refine CM f (Vh f i r (λx w=>?_) rfl ?_)
  ·simp only[mkO,Sp,Oc.op,He,Qd,Qb]at w;rw[w,Bn (aGz (Nx v))];exact⟨X2,by show(3:Int)≠1;decide,by show(3:Int)≠2;decide⟩
  ·show s.length<=24;rw[e1,PL];omega
 |rev nl k=>
  refine CM f (Vh f i r (λx w=>?_) rfl ?_)
  ·simp only[WX,Dr,Sp,He,Qd]at w;obtain⟨n,g,rfl⟩:=Ql.1 w;have z:BX n=true:=by
    have:=Vl (O3 g);obtain⟨u,c,e⟩:=Lx k;rcases Qv.1 this with rfl|h
    ·rw[←e];exact hM.vw.inv.name u c
    ·obtain⟨t,p,rfl⟩:=Ql.1 h;exact hM.vw.inv.name t p
   rw[Bn (aGz z)];exact⟨X1,by show(3:Int)≠1;decide,by show(3:Int)≠2;decide⟩
  ·exact Qc (Zv _ _) f.kl
def aHG{m:Md}(hM:Sk m)(t:Hv m){a:Ak}(hI:Le a):∃dec,HN m.vw a dec∧Hv (CO m (FT dec m)).1:=by
 obtain⟨dec,X,q,u⟩:=aHL hM.vw hI;refine⟨dec,X,?_⟩;obtain⟨g,k0,ya,f⟩:=NJ hM X;have r:H6 (FT dec m).ops:=TE (by rw[f];exact X.rep k0 ya (by rw[←f];exact g));have v:=hM.tr.ord;by_cases x:Im m.vw a≠0
 ·rw[f,q x];exact DM t rfl rfl rfl
 have x:=Decidable.not_not.1 x;obtain⟨k,y,e,ua⟩:=aOz hM X;rw[e]at r ⊢;rcases u x with ⟨h8,z⟩|⟨ra,rfl⟩|⟨i,d,⟨h9,rfl⟩|⟨w,rfl⟩⟩
 ·exact aHF t hM (z k) r
 ·unfold Ri at ua ⊢;split at ua
  ·exact absurd ua (by simp[Dq])
  ·rename_i c;rw[if_neg c];exact DM t rfl rfl rfl
 ·have b:=Td x O O;unfold C5 at ua r ⊢;split at ua
  ·exact absurd ua (GP (IB i))
  rename_i c1;rw[if_neg c1]at r ⊢;split at ua
  ·rename_i n;rw[if_pos n];exact DM t rfl rfl rfl
  rename_i n;rw[if_neg n]at r ⊢;split at ua
  ·rename_i c3;rw[if_pos c3];exact DM t rfl rfl rfl
  rename_i c3;rw[if_neg c3]at r ⊢;split at ua
  ·have j:1<=(E6 k a).1.1∧(E6 k a).1.1<=30:=W3 (Ec _) (Decidable.not_not.1 c3);exact absurd ua (GP (LF i j))
  rename_i c4;rw[if_neg c4]at r ⊢;split at ua
  ·rename_i c5;rw[if_pos c5];exact DM t rfl rfl rfl
  rename_i c5;rw[if_neg c5]at r ⊢;have o:a.op=18:=O
  split at ua
  ·exact absurd ua (GP (IB (d o)))
  rename_i c6;rw[if_neg c6]at r ⊢;rw[pE y c6]at r ⊢;exact TJ t v (d o) (b.2 o) r
 ·have b:=(Td x O O).1;unfold CW at ua r ⊢;split at ua
  ·exact absurd ua (GP (IB i))
  rename_i c1;rw[if_neg c1]at r ⊢;rw[pE y c1]at ua r ⊢;split at ua
  ·rename_i n;rw[if_pos n]at r ⊢;exact TJ t v i b r
  rename_i n;rw[if_neg n]at r ⊢;split at ua
  ·rename_i c3;rw[if_pos c3]at r ⊢;exact aCi t v i b r
  rename_i c3;rw[if_neg c3]at r ⊢;cases z:B1 (FU m.tr a.pa)with
  |none=>exact DM t rfl rfl rfl
  |some s=>
   rw[z]at r;simp only at r ⊢;by_cases p:a.op=14
   ·rw[if_pos p];exact DM t rfl rfl rfl
   rw[if_neg p]at r ⊢;by_cases ta:a.op=16
   ·rw[if_pos ta]at r ⊢;exact vI t v i z r
   rw[if_neg ta]at r ⊢;by_cases na:a.op=11
   ·rw[if_pos na]at r ⊢;exact RC t v i b z (c:=280) (.inl rfl) r
   rw[if_neg na]at r ⊢;by_cases qa:a.op=12
   ·rw[if_pos qa]at r ⊢;exact RC t v i b z (c:=281) (.inr (.inl rfl)) r
   rw[if_neg qa]at r ⊢;exact RC t v i b z (c:=282) (.inr (.inr rfl)) r
def aAi{m:Md}(n:Sk m)(b:Hv m)(j:m.room≠0)(s:Bs)(hl:s.length<=1000000):∃m' y,aNg m s m' y∧Hv m':=by
 obtain⟨r,o,b2⟩:=rC s;by_cases z:(EA s).2=0
 ·obtain⟨dec,X,q⟩:=aHG n b r;have c:EA s=((EA s).1,0):=Ja rfl z;have x:=PI j hl c n X;obtain⟨g,k,t,i⟩:=NJ n X;have e:Lb m.vw (EA s).1 (FT dec m):=by rw[i];exact X.rep k t (by rw[←i];exact g)
  obtain⟨u,f,a,⟨y,w,v,e3,e4⟩,p⟩:=Ph n e;rw[e3]at x;exact⟨_,y,⟨x,w,v,u,f,a,e4,λh=>absurd z h,p⟩,q⟩
 ·exact⟨m,.fail (EA s).2,⟨sH j hl rfl ⟨O,b2⟩,if_pos ⟨O,b2⟩,trivial,n,rfl,rfl,λ_=>rfl,λ_=>⟨rfl,rfl⟩,λ_=>rfl⟩,b⟩
def TW:∀(l:List Bs){m:Md},Sk m->Hv m->m.room≠0->(∀s∈l,s.length<=500)->∃z,gY m l z∧Sk z∧Hv z∧z.room=m.room∧z.vw.key=m.vw.key
 |[],m,hm,hF,_,_=>⟨m,rfl,hm,hF,rfl,rfl⟩
 |s::l,m,hm,hF,hr,hl=>by
  obtain⟨o,y,T,b⟩:=aAi hm hF hr s (Qc (hl s Qj) V);obtain⟨z,u,f,a,i,p⟩:=TW l T.md b (by rw[T.room];exact hr) λx q=>hl x (Qh _ q)
  exact⟨z,⟨o,y,T,u⟩,f,a,i.trans T.room,p.trans T.key⟩
def L8:∀x∈firstE.lst,Bl (Ao x.1).1 (Ao x.1).2.1 (Ao x.1).2.2=0∧(Ao x.1).1≠1∧(Ao x.1).1≠2:=Xk
def aG0(r:Int):Hv (OA Sy (300+r)):=by
 have e:∀q x,firstE.get q=some x->(q,x)∈firstE.lst:=λq x h=>by
  rw[Tr.get_lst q _ TL]at h;exact Tr.getL_some h
 refine⟨λq x h=>(L8 _ (e q x h)).1,λp c=> .inl ⟨?_,λn a b=>?_⟩,⟨λa t=>(by cases t),List.Pairwise.nil⟩,by show 1<=24;decide⟩
 ·show firstE.get _=none;cases h:firstE.get (An 1 p 0)with
  |none=>rfl
  |some x=>
   have:=(L8 _ (e _ x h)).2.1;simp only[Bn (IB c)]at this;exact absurd rfl this
 ·show firstE.get _=none;cases h:firstE.get (An 2 p n)with
  |none=>rfl
  |some x=>
   have:=(L8 _ (e _ x h)).2.2;simp only[Bn (LF c ⟨a,b⟩)]at this;exact absurd rfl this
def LJ(x:Bs×Bs):Int:=(Ao x.1).1
def mI(x:Bs×Bs):List Bs:=(BD (A_ x.2).1.rs).map λn=>An 2 (Ao x.1).2.1 n
def wK(x:Bs×Bs):Int:=if LJ x=2 then 1 else if LJ x=1 then-((BD (A_ x.2).1.rs).length:Int)else 0
def GX(l:List (Bs×Bs)):Int:=(l.map wK).sum
def wO(l:List (Bs×Bs))(x:Bs×Bs):GX (l++[x])=GX l+wK x:=by simp[GX]
def eO:∀l:List (Bs×Bs),GX l=(((l.filter λx=>decide (LJ x=2)).map (·.1)).length:Int)-((((l.filter λx=>decide (LJ x=1)).flatMap mI).length:Nat):Int)
 |[]=>rfl
 |x::l=>by
  have ih:=eO l;have e:GX (x::l)=wK x+GX l:=by simp[GX]
  rw[e,ih];unfold wK;by_cases y:LJ x=2
  ·rw[if_pos y];have u:¬LJ x=1:=by omega
   simp only[Q3,y,decide_true,if_true,QH,Qk,u,decide_false];rw[if_neg V];omega
  ·rw[if_neg y];by_cases u:LJ x=1
   ·rw[if_pos u];have hl:(mI x).length=(BD (A_ x.2).1.rs).length:=by unfold mI;rw[Qq]
    have i:decide (LJ x=2)=false:=decide_eq_false y;have t:decide (LJ x=1)=true:=decide_eq_true u;rw[Q3,Q3,i,t,if_neg V,if_pos rfl,List.flatMap_cons,QD,hl];omega
   ·rw[if_neg u];have i:decide (LJ x=2)=false:=decide_eq_false y;have t:decide (LJ x=1)=false:=decide_eq_false u;rw[Q3,Q3,i,t,if_neg V,if_neg V];omega
def Lu{m:Md}(t:Hv m)(g:Tr.Ord m.tr.lst){x:Bs×Bs}(q:x∈m.tr.lst)(u:LJ x=1):Ay (Ao x.1).2.1=0∧x.1=An 1 (Ao x.1).2.1 0∧(A_ x.2).2=0∧A0 m.vw.ms (Ao x.1).2.1≠-1∧BU (A_ x.2).1 (AL m.vw (Ao x.1).2.1).1=false∧nD m.tr (Ao x.1).2.1 (A_ x.2).1.rs:=by
 have a:m.tr.get x.1=some x.2:=Yo
 have s:=t.key x.1 x.2 a;have k:=NP s;unfold LJ at u;have j:(Ao x.1).2.2=0∧Ay (Ao x.1).2.1=0:=by
  unfold Bl at s;rw[u,if_pos rfl]at s;split at s
  ·assumption
  ·cases s
 rw[u,j.1]at k;refine⟨j.2,k.symm,?_⟩;rcases t.sec _ j.2 with ⟨f,_⟩|⟨y,f,i⟩
 ·rw[k,a]at f;cases f
 ·rw[k,a]at f;cases f;exact i
def aHX{m:Md}(f:Hv m)(g:Tr.Ord m.tr.lst){x:Bs×Bs}(q:x∈m.tr.lst)(u:LJ x=2):Ay (Ao x.1).2.1=0∧x.1=An 2 (Ao x.1).2.1 (Ao x.1).2.2∧1<=(Ao x.1).2.2∧(Ao x.1).2.2<=30∧m.tr.get x.1=some x.2:=by
 have a:m.tr.get x.1=some x.2:=Yo
 have s:=f.key x.1 x.2 a;have k:=NP s;unfold LJ at u;have j:1<=(Ao x.1).2.2∧(Ao x.1).2.2<=30∧Ay (Ao x.1).2.1=0:=by
  unfold Bl at s;rw[u,if_neg V,if_pos rfl]at s;split at s
  ·assumption
  ·cases s
 rw[u]at k;exact⟨j.2.2,k.symm,j.1,j.2.1,a⟩
def LC{rs:List Rw}{n:Int}:n∈BD rs↔∃r∈rs,r.1=n∧r.2.2=false:=by
 unfold BD;rw[Ql];constructor
 ·rintro⟨r,hr,rfl⟩;obtain⟨u,y⟩:=Qr.1 hr;exact⟨r,u,rfl,XQ⟩
 ·rintro⟨r,u,rfl,y⟩;exact⟨r,Qr.2 ⟨u,Xu⟩,rfl⟩
def wN{m:Md}(hF:Hv m)(v:Tr.Ord m.tr.lst):GX m.tr.lst=0:=by
 have hD:((m.tr.lst.filter λx=>decide (LJ x=2)).map (·.1)).Nodup:=by
  unfold Z8;rw[Zn];exact((Tr.ord_sub QN v).imp λh e=>by rw[e,Co]at h;cases h)
 have hM:∀x∈m.tr.lst.filter λx=>decide (LJ x=1),x∈m.tr.lst∧LJ x=1:=λx w=>by
  obtain⟨u,f⟩:=Qr.1 w;exact⟨u,of_decide_eq_true f⟩
 have hE:((m.tr.lst.filter λx=>decide (LJ x=1)).flatMap mI).Nodup:=by
  unfold Z8;rw[List.pairwise_flatMap];refine⟨λx w=>?_,?_⟩
  ·obtain⟨u,f⟩:=hM x w;obtain⟨j,_,hu,_⟩:=Lu hF v u f;have da:=Dm hu;unfold mI BD;rw[Zn,Zn];have k:=ID (GZ da.bad).2.2.2.2.1;refine(List.Pairwise.sublist QN k).imp_of_mem λ{a b} t o h e=>?_
   have i:=Cc da a (Qr.1 t).1;have p:=Cc da b (Qr.1 o).1;have:=pK j i p e;omega
  ·refine(Tr.ord_sub QN v).imp_of_mem λ{a b} t o h y hy z hz e=>?_
   obtain⟨a1,a2⟩:=hM a t;obtain⟨b1,b2⟩:=hM b o;obtain⟨ar,ak,au,_⟩:=Lu hF v a1 a2;obtain⟨br,bk,bu,_⟩:=Lu hF v b1 b2;obtain⟨n1,ra,rfl⟩:=Ql.1 hy;obtain⟨n2,ua,rfl⟩:=Ql.1 hz;obtain⟨r1,q1,rfl,_⟩:=LC.1 ra;obtain⟨r2,q2,rfl,_⟩:=LC.1 ua;have i:=Cc (Dm au) r1 q1;have p:=Cc (Dm bu) r2 q2;have ga:=(Va (LF ar i) (LF br p) e).2.1;have:a.1=b.1:=by rw[ak,bk,ga]
   rw[this,Co]at h;cases h
 have c:=(List.perm_ext_iff_of_nodup hD hE).2 λq=>by
  rw[Ql,List.mem_flatMap];constructor
  ·rintro⟨x,w,rfl⟩;obtain⟨u,f⟩:=Qr.1 w;have f:LJ x=2:=of_decide_eq_true f;obtain⟨j,s,b1,b2,hg⟩:=aHX hF v u f;rw[s]at hg;rcases hF.sec _ j with ⟨_,p⟩|⟨y,i,p,h5,h6,h7,h8⟩
   ·rw[p _ b1 b2]at hg;cases hg
   ·obtain⟨r,oa,ea⟩:=h8 _ _ b1 b2 hg;have hy:(An 1 (Ao x.1).2.1 0,y)∈m.tr.lst:=by
     rw[Tr.get_lst _ _ v]at i;exact Tr.getL_some i
    have d:=Bn (IB j);refine⟨_,Qr.2 ⟨hy,decide_eq_true (by unfold LJ;rw[d])⟩,?_⟩;unfold mI;rw[d];refine Ql.2 ⟨(Ao x.1).2.2,LC.2 ⟨r,oa,ea,?_⟩,s.symm⟩;have:=h7 r oa;rw[ea,hg]at this;simpa using this.symm
  ·rintro⟨x,w,hq⟩;obtain⟨u,f⟩:=hM x w;obtain⟨j,s,hu,_,_,h7,h8⟩:=Lu hF v u f;unfold mI at hq;obtain⟨n,g,rfl⟩:=Ql.1 hq;obtain⟨r,oa,rfl,ea⟩:=LC.1 g;have o:=Cc (Dm hu) r oa;have h9:=h7 r oa;rw[ea]at h9;obtain⟨y,hy⟩:=Option.isSome_iff_exists.1 h9;refine⟨(An 2 (Ao x.1).2.1 r.1,y),Qr.2 ⟨?_,decide_eq_true ?_⟩,rfl⟩
   ·rw[Tr.get_lst _ _ v]at hy;exact Tr.getL_some hy
   ·unfold LJ;rw[Bn (LF j o)]
 rw[eO,c.length_eq];omega
end Go.Vd
namespace Go.Vd
open Go.RowKit
def aR7{l n:Nat}{P:Program}{o:Oper}{a:Act}{w:World}{K i:Act->World->Prop}{Q:Exit->Act->World->Prop}(q:∀c,o.op≠ .defer c)(h:o.wp P a w K Q)(k:∀a w,K a w->i a w)(u:¬LetsOut Q):
  o.wpIn (Fence.wide.inRound l) n P a w i Q:=by
 refine⟨λ_ _=>trivial,?_⟩;rw[show(Fence.wide.inRound l).round=some l from rfl,Oper.semAt_eq _ _ _ q];unfold Oper.wp at h;generalize (execOp a.eval o).run P w=r at h;cases r with
 |ok x m=>
  cases x with
  |value v=>exact k _ _ h
  |skip=>exact k _ _ h
  |defer d=>exact k _ _ h
  |enter f args=>
   refine⟨λp=>absurd p ZJ,?_⟩;have y:CallsIn (Fence.wide.inRound l) (n-1) P f args m _:=(callsIn_wide (n:=n-1)).2 h;refine y.mono ?_;intro e j z;cases e with
   |returned v=>exact k _ _ z
   |panicked t=>exact z
   |outgrown=>exact z
  |row row args=>
   refine⟨λp=>absurd p ZJ,λc cs _=>?_⟩;obtain⟨v,j,r,s⟩:=h c cs;exact⟨v,j,k _ _ r,stepsIn_wide.2 s⟩
  |_=>exact h.elim
 |halt x m=>
  cases x with
  |panic v=>exact h
  |_=>exact h.elim
def P1{l n:Nat}{P:Program}{ops:Array Oper}{Q:Exit->Act->World->Prop}(q:∀(i:Nat) o,ops[i]?=some o->∀c,o.op≠ .defer c)(z:¬LetsOut Q):∀(k:List Nat)(a:Act)(w:World),wpOps P ops Q k a w->wpOpsIn (Fence.wide.inRound l) n P ops Q k a w
 |[],a,w,h=>h
 |i::k,a,w,h=>by
  simp only[wpOps]at h;simp only[wpOpsIn];cases ho:ops[i]? with
  |none=>rw[ho]at h;exact P1 q z k a w h
  |some o=>
   rw[ho]at h;simp only at h ⊢;split at h
   ·rename_i f;rw[if_pos f];rcases h with h|⟨_,h⟩
    ·exact aR7 (q i o ho) h (λa w=>P1 q z k a w) z
    ·exact absurd h z
   ·rename_i f;rw[if_neg f];exact⟨λ_ _=>trivial,P1 q z k _ w h⟩
section
variable{P:Program}{B:Nat}{w0:World}{N:Nat}{ns:Id}{S:G8}{l n:Nat}
def oL{v r:St}{w:World}{g:Gh}{e:Ex}:¬LetsOut (yN P B w0 N ns v w g e r):=by
 rintro⟨a,w',h,_⟩;cases e<;>cases h
def bZ:Code->Bool
 | .region _ ops _=>ops.toList.all λo=>match o.op with| .defer _=>false|_=>true
 | .seq a b=>bZ a&&bZ b
 | .cond _ a b=>bZ a&&bZ b
 | .block _ c=>bZ c
 | .loop c=>bZ c
 |_=>true
def aA6{id:Nat}{ops:Array Oper}{k:Bool}(h:bZ (.region id ops k)=true)(i:Nat)(o:Oper)(g:ops[i]?=some o)(c:Call):o.op≠ .defer c:=by
 intro e;have j:o∈ops.toList:=Array.mem_toList_iff.2 (Array.mem_of_getElem? g);have:=List.all_eq_true.1 h o j;rw[e]at this;cases this
def aUC(hS:G8.ok P S):∀(ca:Code)(dc:DC),Bg P N ca=some dc->bZ ca=true->∀(st:St)(e:Ex)(fa:St),Ev S ns dc st e fa->∀(a:Act)(w:World)(g:Gh),Holds P B w0 N ns st a w g->
  ca.wpIn (Fence.wide.inRound l) n P (yN P B w0 N ns st w g e fa) a w:=by
 intro ca;induction ca with
 |skip=>
  intro dc ba ia st e fa ha a w g hx;simp only[Bg,Qx]at ba;subst ba;obtain⟨rfl,rfl⟩:=ha;exact wpIn_skip ⟨rfl,g,hx,Hr.refl w g,EO.refl _ _ _⟩
 |ret=>
  intro dc ba ia st e fa ha a w g hx;simp only[Bg,Qx]at ba;subst ba;obtain⟨rfl,rfl⟩:=ha;exact wpIn_ret ⟨rfl,g,hx,Hr.refl w g,EO.refl _ _ _⟩
 |exit i=>
  intro dc ba ia st e fa ha a w g hx;simp only[Bg,Qx]at ba;subst ba;obtain⟨rfl,rfl⟩:=ha;exact wpIn_exit ⟨rfl,g,hx,Hr.refl w g,EO.refl _ _ _⟩
 |region id ops oa=>
  intro dc ba ia st e fa ha a w g hx;cases oa with
  |false=>
   simp only[Bg,QE]at ba;obtain⟨da,ea,rfl⟩:=ba;obtain⟨rfl,he,hc⟩:=ha;rw[IW,IY S ns st.c da da 0 _ _ rfl,←Q9]at he;have hl:da.length=ops.size:=by simpa using (CQ ea).1
   refine wpIn_region (P1 (aA6 ia) oL _ a w ?_);rw[←hl];have h0:below 0=λ_=>false:=X9
   refine E0 hS ea (List.range da.length) (below 0) st.s st.m a w g fa.s fa.m ?_ he (hx.start _) (λa' w' g' h1 h2 h3=>⟨rfl,g',?_,h2,h3⟩)
   ·rw[Q9];exact RB _ 0
   ·rw[Q9,OG]at h1;rw[Nat.zero_add]at h1;unfold Holds;rw[hc,Qq];exact h1.done
  |true=>
   simp only[Bg]at ba;obtain⟨da,aa,ea,hb,hs,ka,rfl⟩:=MN ba;obtain⟨rfl,⟨f,he,hf⟩,hc⟩:=ha;rw[GW]at he;refine wpIn_region_draw (λt=>P1 (aA6 ia) oL _ a _ ?_);obtain⟨g1,g2⟩:=LN ea hb ka (P.follows .mixedOrders) t;have p:=PQ (c:=st.c) (ns:=ns) hS hb hs he hf g1 g2;have pa:InS P B w0 N ns st.c st.s st.m a w.drew g:=⟨hx.inv.drew,λt=>(hx.slots t).ext (Hr.drew w g),hx.size,hx.defers,hx.fresh⟩;refine E0 hS ea _ (λ_=>false) st.s st.m a w.drew g fa.s fa.m (NY g1) p (pa.start _) (λa' w' g' h1 h2 h3=>⟨rfl,g',?_,(Hr.drew w g).trans h2,h3⟩);unfold Holds;rw[hc,Qq];rw[g2]at h1;exact h1.done
 |seq x y z sa=>
  intro dc ba ia st e fa ha a w g hx;obtain⟨ra,ua⟩:bZ x=true∧bZ y=true:=by simpa[bZ]using ia
  simp only[Bg]at ba;split at ba
  ·rename_i dx dy h1 h2;simp only[Qx]at ba;subst ba;obtain⟨e1,st1,d,q⟩:=ha;have za:=z dx h1 ra st e1 st1 d a w g hx;refine wpIn_seq (wpIn_mono za ?_);rintro e' a' w' ⟨rfl,g',hh,b,ja⟩;rcases q with ⟨rfl,v⟩|⟨ga,rfl,rfl⟩
   ·exact wpIn_mono (sa dy h2 ua st1 e fa v a' w' g' hh) (λya va ma h=>h.trans b ja)
   ·cases e with
    |normal=>exact absurd rfl ga
    |ret=>exact⟨rfl,g',hh,b,ja⟩
    |exit i=>exact⟨rfl,g',hh,b,ja⟩
  ·cases ba
 |cond c x y z sa=>
  intro dc ba ia st e fa ha a w g hx;obtain⟨ra,ua⟩:bZ x=true∧bZ y=true:=by simpa[bZ]using ia
  simp only[Bg]at ba;split at ba
  ·rename_i o dx dy h0 h1 h2;simp only[Qx]at ba;subst ba;have hc:=hx.slots.arg h0;rcases ha with ⟨ht,ha⟩|⟨ht,ha⟩
   ·rw[ht]at hc;exact wpIn_cond_true hc.bool_inv (z dx h1 ra st e fa ha a w g hx)
   ·rw[ht]at hc;exact wpIn_cond_false hc.bool_inv (sa dy h2 ua st e fa ha a w g hx)
  ·cases ba
 |block i c ih=>
  intro dc ba ia st e fa ha a w g hx;simp only[Bg,QE]at ba;obtain⟨o,h1,rfl⟩:=ba;obtain⟨e1,d,q⟩:=ha;refine wpIn_block (wpIn_mono (ih o h1 ia st e1 fa d a w g hx) ?_);rintro e' a' w' ⟨rfl,g',hh,b,ja⟩;rcases q with ⟨rfl,rfl⟩|⟨ga,rfl⟩
  ·simp only[Ex.toExit,Exit.inBlock,if_true];exact⟨rfl,g',hh,b,ja⟩
  ·cases e with
   |normal=>exact⟨rfl,g',hh,b,ja⟩
   |ret=>exact⟨rfl,g',hh,b,ja⟩
   |exit j=>
    simp only[Ex.toExit,Exit.inBlock];rw[if_neg (λe=>ga (by rw[e]))];exact⟨rfl,g',hh,b,ja⟩
 |loop c ih=>
  intro dc ba ia st e fa ha a w g hx;simp only[Bg,QE]at ba;obtain⟨o,h1,rfl⟩:=ba;obtain⟨k,xa⟩:=ha;refine wpIn_loop_ghost (λk a' w'=>∃st1 g1,Holds P B w0 N ns st1 a' w' g1∧Hr w g w' g1∧EO ns st.m g st1.m g1∧Lp (Ev S ns o) k st1 e fa) k ⟨st,g,hx,Hr.refl w g,EO.refl _ _ _,xa⟩ ?_;rintro k a1 w1 ⟨st1,g1,hh,b,ja,r⟩;cases r with
  |stop _ _ _ hr ga=>
   refine wpIn_mono (ih o h1 ia st1 e fa hr a1 w1 g1 hh) ?_;rintro e' a' w' hp;have wa:=hp.trans b ja;obtain⟨rfl,_⟩:=hp;cases e with
   |normal=>exact absurd rfl ga
   |ret=>exact wa
   |exit i=>exact wa
  |more n' _ la _ _ hr qa=>
   refine wpIn_mono (ih o h1 ia st1 .normal la hr a1 w1 g1 hh) ?_;rintro e' a' w' ⟨rfl,g',ta,u,na⟩;exact⟨n',Nat.lt_succ_self _,la,g',ta,b.trans u,ja.trans na,qa⟩
 |_=>
  intro dc ba;simp[Bg]at ba
end
end Go.Vd
namespace Go.Vd
open Go.RowKit Go.ChangeShapes Go.WideShapes Go.Deep
def allG(w:World)(b:Nat):Nat:=match w.heap[b]? with
 |some (.cells c _ _)=>c.size
 |_=>0
def fM(w:World)(b:Nat)(h:w.heap.size<=b):allG w b=0:=by
 grind [allG]
def qV{w:World}{p:Addr}{v:Value}(h:w.cell? p=some v):p.off<allG w p.block:=by
 unfold World.cell? at h;unfold allG;split at h
 ·grind
 ·cases h
def aW7(P:Program)(t:TypeId):Bool:=match P.underlying t with
 |some (.struct _)=>true
 |_=>false
def aRo:Bool->List D->D
 |true,cs=> .agg cs
 |false,[d]=>d
 |false,_=> .junk
def aV7(F:TypeId->List D->Prop):List TypeId->List D->Prop
 |[],ds=>ds=[]
 |t::r,ds=>∃a b,ds=a++b∧F t a∧aV7 F r b
def Fit(P:Program):Nat->TypeId->List D->Prop
 |0,_,_=>False
 |n+1,t,ds=>match P.underlying t with
  |some .string=>∃s,ds=[.str s]
  |some .bool=>∃b,ds=[.bool b]
  |some (.int k)=>∃x,ds=[.int k x]∧(Lit.int k x).wf=true
  |some (.struct fs)=>aV7 (Fit P n) (fs.toList.map (·.type)) ds
  |some (.slice e)=>∃nl xs,ds=[.slice nl [] xs]∧(nl=true->xs=[])∧∀x∈xs,∃cs,x=aRo (aW7 P e) cs∧Fit P n e cs
  |_=>False
structure aVt (w:World) (ds:List D) (cs:List Value):Prop where
 len:ds.length=cs.length
 calm:∀d∈ds,d.calm1=true
 un:ds.map D.un1=ds
 rep:∀(j:Nat) d v,ds[j]?=some d->cs[j]?=some v->Rep w (startG (allG w)) d v∧v.oneCell'=true
theorem aVt.one {w : World} {d : D} {v : Value} (u : d.calm1 = true) (f : d.un1 = d) (i : Rep w (startG (allG w)) d v) (p : v.oneCell' = true) : aVt w [d] [v] :=
 ⟨rfl, fun x q => by simp only [Qv, ZS, or_false] at q; subst q; exact u, by simp [f], fun j x y q o => by
  match j with
  | 0 => simp only [Qu, Qx] at q o; subst q o; exact ⟨i, p⟩
  | j + 1 => simp at q⟩
section
variable{H:Type}{enc:TypeId×Value->H}{P:Program}{w:World}{base:Nat}{spare:Nat->Bool}{held:Bool}
end
end Go.Vd
namespace Go.Vd
open Go.Proofs Go.RowKit Go.Shelf
def Mh(w:World)(n b:Nat):Nat:=if b<n then allG w b else 0
def It(n:Nat)(w:World)(d:D)(v:Value):Prop:=Rep w (Gh.base (Mh w n)) d v
def bI{w:World}{g:Gh}{d:D}{v:Value}(h:Rep w g d v)(z:d.calm=true){n:Nat}(r:∀b,n<=b->g.G b=0):It n w d v:=by
 unfold It;induction h with
 |junk v=>exact .junk v
 |bool b=>exact .bool b
 |int k n=>exact .int k n
 |str s=>exact .str s
 |nils t=>exact .nils t
 |slice t xs a k c sz vv u y x q h5 h6 h7 h8 h9 ih=>
  have ht:t=[]:=XO
  subst ht;refine .slice [] xs a k c sz vv u y x q h5 (λj d p=>ih j d p (LA h9 d (Q1 p))) (λh=>?_) (λh=>absurd rfl h) h9;have e:=qV (q (k*sz-1) O);rw[CX,EN]at e;have:=h7 h;simp only[Gh.base,Mh];split
  ·omega
  ·rename_i hb;have:=r a.block O;omega
 |ptr i o b u=>simp[D.calm,D.calm1]at z
 |row i k c b u y=>simp[D.calm,D.calm1]at z
 |eptr ds a vv u y x q h5 ih=>
  refine .eptr ds a vv u y (λj d p=>ih j d p (h5 d (Q1 p))) (λh=>?_) h5;have e:=qV (u (ds.length-1) O);rw[CX,EN]at e;have:=q h;simp only[Gh.base,Mh];split
  ·omega
  ·rename_i hb;have:=r a.block O;omega
 |nilp=>exact .nilp
 |agg ds vs u y x ih=>exact .agg ds vs u y (λj d v p m=>ih j d v p m (Nh z d (Q1 p)))
 |tup ds vs u y ih=>simp[D.calm,D.calm1]at z
 |iface t d v u y ih=>exact .iface t d v u (ih u)
 |nili=>exact .nili
 |fn f ds vs u y ih=>
  have:ds=[]:=XO
  subst this;exact .fn f [] vs u U
 |nilf=>exact .nilf
 |nilm=>exact .nilm
 |itp i b h=>simp[D.calm,D.calm1]at z
def wR{n:Nat}{w W:World}(o:Below n w W)(b:Nat):Mh w n b=Mh W n b:=by
 unfold Mh;split
 ·rename_i h;unfold allG;rw[o.block b h]
 ·rfl
def aPU{n:Nat}{w:World}{p:Addr}(h:p.off<Mh w n p.block):p.block<n:=by
 unfold Mh at h;split at h
 ·assumption
 ·omega
def It.below{n:Nat}{w W:World}{d:D}{v:Value}(h:It n w d v)(z:d.calm=true)(o:Below n w W):It n W d v:=
 Rep.calm_to h z (λp c=>o.cell (aPU c)) (λb=>Zq (wR o b))
def It.more{n k:Nat}{w:World}{d:D}{v:Value}(h:It n w d v)(z:d.calm=true)(s:n<=k):It k w d v:=
 Rep.calm_to h z (λ_ _=>rfl) (λb=>by
  show Mh w n b<=Mh w k b;unfold Mh;split
  ·rw[if_pos O];exact Qf _
  ·exact Qn _)
def Ip(w:World)(i:Id)(b:Nat):Gh:={G:=λk=>if k=b then 0 else allG w k,G0:=λk=>if k=b then 0 else allG w k,dl:=λj=>if j=i then some b else none,tb:=λ_=>none}
def It.rep{n:Nat}{w:World}{d:D}{v:Value}(h:It n w d v)(z:d.calm=true){i:Id}{b:Nat}(o:n<=b):Rep w (Ip w i b) d v:=
 Rep.calm_to h z (λ_ _=>rfl) (λk=>by
  show Mh w n k<=if k=b then 0 else allG w k
  unfold Mh;split
  ·rw[if_neg O];exact Qf _
  ·exact Qn _)
def I3(i:Id)(d:D):Ha:=Ha.put (λ_ _=>none) i 0 [d]
def Ni{i j:Id}{o:Nat}{d n:D}(h:I3 i d j o=some n):j=i∧o=0∧n=d:=by
 unfold I3 Ha.put at h
 grind
def aHx{P:Program}{W:World}{b:Nat}{vs:Array Value}{T:TypeId}{i:Id}{d:D}{v:Value}(z:W.heap[b]?=some (.cells vs T (0,0)))(m:vs[0]?=some v)(u:v.oneCell'=true)(j:Rep W (Ip W i b) d v)(t:∀e,d≠ .tok e):
  Hi P b W (I3 i d) W (Ip W i b):=by
 have w:b<W.heap.size:=(Qm.1 z).1;refine⟨Below.refl _ _,O,λk pa=>?_,λ_ _=>rfl,λf r h=>?_,λi1 i2 r y a=>?_,λf o d' h g=>?_,λf e h=>?_,λi1 i2 e e' r x x' y a q h5=>?_,λf s p h=>?_,λi1 i2 s p c p' r x x' y a q h5=>?_⟩
 ·show(if k=b then 0 else allG W k)=0;rw[if_neg O];exact fM W k pa
 ·simp only[Ip]at h;split at h
  ·rename_i e;subst e;simp only[Qx]at h;subst h;refine⟨Qf _,if_pos rfl,vs,T,z,λo d' n=>?_⟩;obtain⟨_,rfl,rfl⟩:=Ni n;exact⟨v,m,u,j⟩
  ·cases h
 ·simp only[Ip]at y a;split at y
  ·split at a
   ·simp_all
   ·cases a
  ·cases y
 ·obtain⟨rfl,_,_⟩:=Ni h;simp[Ip]at g
 ·exact absurd (Ni h).2.2.symm (t _)
 ·simp[Ip]at q
 ·have:=(Ni h).2.1;omega
 ·simp[Ip]at q
def aAA{P:Program}{S:G8}(hS:G8.ok P S){N:Nat}{w:Code}{dc:DC}(y:Bg P N w=some dc)(ia:bZ w=true){l n:Nat}{W:World}{b:Nat}{vs:Array Value}{T:TypeId}{i:Nat}{d:D}{v:Value}
  (hh:W.heap[b]?=some (.cells vs T (0,0))) (hv:vs[0]?=some v) (u:v.oneCell'=true) (hr:Rep W (Ip W [i] b) d v) (hk:∀e,d≠ .tok e) {s:Nat->D} {a:Act} (ua:Dg W (Ip W [i] b) s a) (la:a.tmps.size=N) (p:a.defers=[]) {c:Nat} (hc:i<c)
  {Q:Ex->St->Prop} (za:dc.wp S [] Q ⟨s,I3 [i] d,c⟩):
  w.wpIn (Fence.wide.inRound l) n P (λe' a' W'=>∃e z,e'=e.toExit∧Q e z∧KeepsOthers W W'∧Below b W W'∧(∀k,k≠b->k<W.heap.size->W'.heap[k]?=W.heap[k]?)∧∃bb T',W'.heap[b]?=some (.cells bb T' (0,0))∧∀o d',z.m [i] o=some d'->∃v' g',bb[o]?=some v'∧Rep W' g' d' v') a W:=by
 obtain⟨e,z,r,hq⟩:=za;have q:Holds P b W N [] ⟨s,I3 [i] d,c⟩ a W (Ip W [i] b):=by
  refine⟨aHx hh hv u hr hk,ua,la,p,λk i' f hs=>?_⟩;simp only at f;have ga:i'≠[i]:=by
   rintro rfl;obtain⟨t,ht⟩:=hs;have hl:=congrArg List.length ht;simp only[QD,Qk,Qy]at hl;have:t=[]:=Q5.1 O;subst this;simp at ht;omega
  refine⟨λo=>?_,by simp[Ip,ga],rfl⟩;show I3 [i] d i' o=none;cases hm:I3 [i] d i' o with
  |none=>rfl
  |some x=>exact absurd (Ni hm).1 ga
 refine wpIn_mono (aUC hS w dc y ia _ e z r a W _ q) ?_;rintro e' a' W' ⟨rfl,g',ta,ma,_⟩;have ja:=ta.inv.below;have xa:∀k,k≠b->k<W.heap.size->W'.heap[k]?=W.heap[k]?:=λk g da=>by
  have:=ma.unt k W.heap[k] (Zl da) (λj e=>by
   simp only[Ip]at e;split at e
   ·exact g (ZT e).symm
   ·cases e) (λj x e=>by simp[Ip]at e)
  rw[this,Zl da]
 refine⟨e,z,rfl,hq,⟨ma.size,λk o hk hc=>?_⟩,ja,xa,?_⟩
 ·have da:k<W.heap.size:=(Qm.1 hk).1;rw[xa k (λe=>by rw[e,hh]at hk;cases hk;cases hc) da];exact hk
 ·obtain⟨_,_,bb,T',qa,oa⟩:=ta.inv.obj [i] b (ma.dl [i] b (by simp[Ip]));exact⟨bb,T',qa,λo d' hm=>(oa o d' hm).elim λv' h=>⟨v',g',h.1,h.2.2⟩⟩
end Go.Vd
namespace Go.Vd
open Go.Proofs Go.RowKit
def WW:Code->Option (Code×Code)
 | .rangeFunc _ _ a b=>some (a,b)
 | .seq a b=>(WW a).or (WW b)
 | .cond _ a b=>(WW a).or (WW b)
 | .block _ a=>WW a
 | .loop a=>WW a
 | .scope a=>WW a
 |_=>none
def rfB(f:Func):Code:=((WW (bAt f)).getD (.skip,.skip)).2
abbrev y4(f:Func)(ps:List (Nat×List (Nat×Nat)))(ls:List (Nat×DC)){c:DC}(_:tQ ps ls (rfB f)=c:=by exact Eq.trans (by conv=>lhs;whnf) (by simp only[tQ,kW,Z2,tR,tO,tAt,tAi,tAb,tAs,tAf,tAl,tAp,tAn,tAu,tAg,zT,Tz.k,Tz.z,Tz.n,Tz.d,tL,tP,tB,tE,tX,tS,tI,tG,tC,tM,fAt,Oy,lk,ofVal,Zz,ZA,QH,Zc,Qk,Qy,ZX,Qe,Qd,QS,ZY,QI,Zh,reduceIte,Qs,Z3,Qt]<;>rfl)):DC:=c
abbrev y5(f:Func)(k:Nat)(ps:List (Nat×List (Nat×Nat)))(ls:List (Nat×DC)){c:DC}(_:tQ ps ls ((U5 k (rfB f)).getD .skip)=c:=by exact Eq.trans (by conv=>lhs;whnf) (by simp only[tQ,kW,Z2,tR,tO,tAt,tAi,tAb,tAs,tAf,tAl,tAp,tAn,tAu,tAg,zT,Tz.k,Tz.z,Tz.n,Tz.d,tL,tP,tB,tE,tX,tS,tI,tG,tC,tM,fAt,Oy,lk,ofVal,Zz,ZA,QH,Zc,Qk,Qy,ZX,Qe,Qd,QS,ZY,QI,Zh,reduceIte,Qs,Z3,Qt]<;>rfl)):DC:=c
def Lz:=y5 Tryz.f4 24 [] []
def dc1004b:=y4 Tryz.f4 [(19,[(1,4),(1,9),(5,9),(9,0),(9,1),(9,4),(9,5)])] [(24,Lz)]
def aGh:Bg QC 148 (rfB Tryz.f4)=some dc1004b:=Z
def aG1:bZ (rfB Tryz.f4)=true:=Z
end Go.Vd
end
