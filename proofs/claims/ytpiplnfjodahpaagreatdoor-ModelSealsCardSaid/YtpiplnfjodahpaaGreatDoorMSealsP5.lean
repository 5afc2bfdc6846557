/- A part of the proof; nothing in it is assumed. -/
import Derived.Test.YtpiplnfjodahpaaGreatDoorMSealsP4
import Derived.WalkLawsBesides
import Derived.RangeFuncNested
import Derived.RangeFuncBound
import Derived.Deep.Fields

set_option linter.unusedSimpArgs false
set_option linter.unusedVariables false
set_option linter.defProp false
set_option maxHeartbeats 4000000
set_option maxRecDepth 100000
open Nat renaming le_of_ble_eq_true→Qa,le_trans→Qe,le_refl→Qg,zero_le→Qs,reduceAdd→Qx,reduceEqDiff→Qz,reduceSub→QJ,reduceLeDiff→Q_,le_of_eq→Zb,reduceLT→Ze,lt_of_lt_of_le→Zn,le_succ_of_le→Zo,add_zero→Zw,mul_comm→Zy
open List renaming length_cons→Qb,getElem?_eq_getElem→Qc,length_append→Qd,length_nil→Qf,cons_append→Qh,nil_append→Qi,map_cons→Ql,sum_cons→Qm,mem_singleton→Qn,getElem?_cons_zero→Qo,mem_nil_iff→Qp,mem_cons→Qq,map_nil→Qt,length_map→Qu,mem_cons_of_mem→Qv,sum_nil→Qw,mem_cons_self→Qy,drop_eq_getElem_cons→QB,getElem_mem→QD,getElem?_map→QF,getElem?_cons_succ→QG,take_succ_eq_append_getElem→QH,getD_eq_getElem?_getD→QL,append_toArray→QP,mem_map→QQ,drop_eq_nil_of_le→QR,size_toArray→QT,push_toArray→QU,getElem?_append_right→QV,getElem?_append_left→QW,map_append→QX,take_length→QZ,getElem?_eq_some_iff→Q7,all_eq_true→Za,toArray→Zc,take_of_length_le→Zd,mem_append→Zg,filter_sublist→Zh,map_eq_nil_iff→Zi,getElem_of_mem→Zj,getElem?_drop→Zm,map_map→Zp,all_eq_false→Zq,length_take→Zr,take_prefix→Zs,mem_filter→Zt,all_cons→Zu,map→Zz,getD→ZB
open Int renaming toNat_natCast→Qj,reduceEq→QC,le_refl→Q0,toNat_of_nonneg→Q2,reduceNe→Q3,reduceLE→Q4,tmod_eq_emod_of_nonneg→Q6,reduceLT→Zf,lt_irrefl→Zk
open Option renaming isSome_some→Qk,getD_some→QI,map_some→QS,map_eq_some_iff→QY,isSome_none→Q5,isSome_iff_exists→Q8,getD_none→Q9
open Array renaming getElem?_eq_some_iff→Qr,replicate_succ→QN,replicate_zero→QO
open Go.Proofs.Tryz renaming prog→QA
open Bool renaming and_eq_true→QE,true_eq_false→Zl,true_and→Zv
open Option.some renaming injEq→QM,inj→ZC
open List.cons renaming injEq→Q1
open Prod renaming ext_iff→Zx,ext→ZA
open Go.Proofs.Tryz
noncomputable section
namespace Go.Vd
open Go.Proofs Go.RowKit
def lB(s:Sc)(n:Int):0<=(Hx s n).2∧(Hx s n).2<=99:=by
 grind [Hx]
def xO{s:Sc}(r:vH s){n:Int}(h:(Hx s n).2=0):1<=(Hx s n).1.1∧(Hx s n).1.1<=30:=by
 have m:=OP r.bad;unfold Hx at h ⊢;split at h
 ·cases h
 ·rename_i u;rw[if_neg u];split at h
  ·cases h
  ·rename_i y;rw[if_neg y];split at h
   ·cases h
   ·rename_i p;rw[if_neg p];have w:FZ s n<s.rs.length:=by
     unfold FZ;split
     ·omega
     ·exact Sj _ _
    simp only[ZB];rw[Qc O];have t:=eR m.2.2.2.2.1 _ (QD (l:=s.rs) (n:=(FZ s n).toNat) O);have z:(s.rs.getLast?.map (·.1)).getD 0=Pc s.rs:=by unfold Pc;cases s.rs.getLast?<;>rfl
    rw[z,m.2.2.2.2.2]at t;simp only[QI];omega
def DG(v:Vw)(a:Ak)(k:Kn):Oc:=
 if(AK k a.pa).2.2=false then Dy v (A_ 1 a.pa 0) false
 else if a.op=10 then HQ v a.pa (Lg (DK (AK k a.pa))) a.cas a.da
 else if a.op=15 then LN v a.pa (DM (Lg (DK (AK k a.pa))) (BP v a.pa).1 a.n a.fl).1 (DM (Lg (DK (AK k a.pa))) (BP v a.pa).1 a.n a.fl).2.1 (DM (Lg (DK (AK k a.pa))) (BP v a.pa).1 a.n a.fl).2.2
 else match DK (AK k a.pa)with
  |none=>HE v 6
  |some s=>if a.op=14 then {GI v with rep:=Hg (.about s)}else if a.op=16 then {EX (GI v) a.pa s.rs with rep:=Hg .done}
   else if a.op=11 then LN v a.pa (BC s a.ns 280).1 [] (BC s a.ns 280).2.2 else if a.op=12 then LN v a.pa (BC s a.ns 281).1 [] (BC s a.ns 281).2.2
   else LN v a.pa (BC s a.ns 282).1 (BC s a.ns 282).2.1 (BC s a.ns 282).2.2
def aUG{v:Vw}{a:Ak}{k:Kn}(x:G6 v)(j:I2 a)(w:HP k)(na:10<=a.op∧a.op<=16):∃ol,SZ ⟨v,a,k⟩ (GI v) []=some (.tup [],DG v a k,ol):=by
 have y:a.pa.length<=1000000:=Yk
 have p:a.da.length<=1000000:=by have:=j.ok.da;omega
 have g:=j.ok.ns;unfold DG;cases hm:(AK k a.pa).2.2 with
 |false=>
  rw[if_pos rfl];exact⟨_,aCJ ⟨v,a,k⟩ (GI v) _ _ _ (λ_=>rfl) (MK w y hm)⟩
 |true=>
  rw[if_neg V];have z:=Le (v:=v) (a:=a) w y hm;have d:=Gc (AK k a.pa);by_cases q:a.op=10
  ·rw[if_pos q];obtain⟨ol,f⟩:=aMv (a:=a) (k:=k) x y d (cas:=a.cas) (data:=a.da) p;exact⟨_,tT ⟨v,a,k⟩ (GI v) _ _ _ _ (λ_=>rfl) z q f⟩
  rw[if_neg q];by_cases c:a.op=15
  ·rw[if_pos c];have hl:=d.len;obtain⟨o,u,b3⟩:=bO hl (BP v a.pa).1 a.n a.fl;obtain⟨ol,r⟩:=aEK (v:=v) (a:=a) (k:=k) (s:=(DM (Lg (DK (AK k a.pa))) (BP v a.pa).1 a.n a.fl).1) O (gnl:=decide ((DM (Lg (DK (AK k a.pa))) (BP v a.pa).1 a.n a.fl).2.1=[])) (gone:=(DM (Lg (DK (AK k a.pa))) (BP v a.pa).1 a.n a.fl).2.1) O o y;exact⟨_,jG ⟨v,a,k⟩ (GI v) _ _ _ _ (λ_=>rfl) z c (BP v a.pa).1 (BP v a.pa).2 _ _ _ _ r (UT ⟨v,a,k⟩ (GI v) a.pa (λ_=>rfl) (by have:=x.ml;simp only;omega)) (aHJ _ _ _ _ _ O d.nl)⟩
  rw[if_neg c];cases hs:DK (AK k a.pa)with
  |none=>
   rw[hs]at z;exact⟨_,aCI ⟨v,a,k⟩ (GI v) _ _ _ (λ_=>rfl) z q c (vT v a k V)⟩
  |some s=>
   rw[hs]at z;have b:=Og hs;have hl:=b.len;simp only;by_cases m:a.op=14
   ·rw[if_pos m];exact⟨_,tV ⟨v,a,k⟩ (GI v) s _ _ (λ_=>rfl) z m (Gq ⟨v,a,k⟩ (GI v) (.about s) (λ_=>rfl) (show s.rs.length<=1000 by omega) trivial)⟩
   rw[if_neg m];by_cases t:a.op=16
   ·rw[if_pos t];exact⟨_,tU ⟨v,a,k⟩ (GI v) s _ _ (λ_=>rfl) z t (aGL ⟨v,a,k⟩ (GI v) s (HM v) O y)⟩
   rw[if_neg t];by_cases qa:a.op=11
   ·rw[if_pos qa];obtain⟨o,u,b3⟩:=LL hl a.ns 280;obtain⟨ol,r⟩:=aEK (v:=v) (a:=a) (k:=k) (s:=(BC s a.ns 280).1) O (gnl:=true) (gone:=[]) (Qs _) o y;exact⟨_,jF ⟨v,a,k⟩ (GI v) s _ _ (λ_=>rfl) z qa _ _ r (aHH s _ _ O b.nl g)⟩
   rw[if_neg qa];by_cases e:a.op=12
   ·rw[if_pos e];obtain⟨o,u,b3⟩:=LL hl a.ns 281;obtain⟨ol,r⟩:=aEK (v:=v) (a:=a) (k:=k) (s:=(BC s a.ns 281).1) O (gnl:=true) (gone:=[]) (Qs _) o y;exact⟨_,UO ⟨v,a,k⟩ (GI v) s _ _ (λ_=>rfl) z e _ _ r (aHF s _ _ O b.nl g)⟩
   rw[if_neg e];have i:a.op=13:=O
   obtain⟨o,u,b3⟩:=LL hl a.ns 282;obtain⟨ol,r⟩:=aEK (v:=v) (a:=a) (k:=k) (s:=(BC s a.ns 282).1) O (gnl:=decide ((BC s a.ns 282).2.1=[])) (gone:=(BC s a.ns 282).2.1) O o y;exact⟨_,cL ⟨v,a,k⟩ (GI v) s _ _ (λ_=>rfl) z i _ _ _ _ r (aHD s _ _ O b.nl g)⟩
def DV{v:Vw}{a:Ak}{k:Kn}(m:G6 v)(y:AP a.pa=0)(na:10<=a.op∧a.op<=16):((AK k a.pa).2.2=true->(DG v a k).need=[]∧Iy v a (DG v a k))∧((AK k a.pa).2.2=false->DG v a k=Dy v (A_ 1 a.pa 0) false):=by
 have d:=Gc (AK k a.pa);have hl:=d.len;unfold DG;cases hm:(AK k a.pa).2.2 with
 |false=>
  rw[if_pos rfl];exact⟨λe=>Xv,λ_=>rfl⟩
 |true=>
  rw[if_neg V];refine⟨λ_=>?_,λe=>Xv⟩;by_cases w:a.op=14
  ·rw[if_neg O,if_neg O];cases hs:DK (AK k a.pa)with
   |none=>exact⟨rfl,BR V⟩
   |some s=>
    simp only;rw[if_pos w];exact⟨rfl,DA (.about s) (if_neg (by rw[(Og hs).bad];decide)) trivial rfl Xm (I4 O) rfl v.se (λ_ _=>rfl) rfl⟩
  have p:DX a.op=true:=Nz O;by_cases z:a.op=10
  ·grind [RU]
  rw[if_neg z];by_cases i:a.op=15
  ·rw[if_pos i];obtain⟨o,f,r⟩:=bO hl (BP v a.pa).1 a.n a.fl;exact LM m O o y p f (sI d _ _ _)
  rw[if_neg i];cases hs:DK (AK k a.pa)with
  |none=>exact⟨rfl,BR V⟩
  |some s=>
   have b:=Og hs;have hl:=b.len;simp only;rw[if_neg w];by_cases t:a.op=16
   ·rw[if_pos t];have g:(EW s.rs).length<=s.rs.length:=by unfold EW;rw[Qu];exact List.length_filter_le _ _
    have ra:∀n∈EW s.rs,1<=n∧n<=30:=λn g=>by
     obtain⟨x,q,rfl⟩:=QQ.1 g;exact Oh b x (Zt.1 q).1
    refine⟨rfl,DB .done rfl trivial rfl Xm p (by simp[EX,Bo,Oc.op,GI]) ⟨?_,?_⟩ m⟩
    ·grind [EX,Bo,Oc.op,GI]
    ·grind [EX,Bo,Oc.op,GI,Dw,qA,Cn,Ul]
   rw[if_neg t];have tb:=λc=>LL hl a.ns c
   have tm:=λc=>pF b a.ns c
   by_cases j:a.op=11
   ·rw[if_pos j];exact LM m (Qs _) (tb 280).1 y p (tb 280).2.1 (λn h=>nomatch h)
   rw[if_neg j];by_cases u:a.op=12
   ·rw[if_pos u];exact LM m (Qs _) (tb 281).1 y p (tb 281).2.1 (λn h=>nomatch h)
   rw[if_neg u];exact LM m (by have:=(tb 282).2.2;omega) (tb 282).1 y p (tb 282).2.1 (tm 282)
def PP{v:Vw}{a:Ak}(x:G6 v)(j:I2 a)(q:jT [Hj v,GW a]=some (.int .i64 0))(n:AP a.pa=0)(na:10<=a.op∧a.op<=16):G9 v a (DG v a):=by
 refine⟨λk s=>?_,λk s g=>?_,λk s g=>?_,λk=>if(AK k a.pa).2.2=true then 0 else 1,λk=>by dsimp only;split<;>decide,λk d s g=>?_⟩
 ·obtain⟨ol,h⟩:=aUG x j s na;rcases(by omega:a.op=10∨a.op=11∨a.op=12∨a.op=13∨a.op=14∨a.op=15∨a.op=16)with e|e|e|e|e|e|e
  ·exact Bp .o10 a k e q _ _ h
  ·exact Bp .o11 a k e q _ _ h
  ·exact Bp .o12 a k e q _ _ h
  ·exact Bp .o13 a k e q _ _ h
  ·exact Bp .o14 a k e q _ _ h
  ·exact Bp .o15 a k e q _ _ h
  ·exact Bp .o16 a k e q _ _ h
 ·cases hm:(AK k a.pa).2.2 with
  |true=>exact((DV (v:=v) x n na).1 hm).2
  |false=>
   rw[(DV (v:=v) x n na).2 hm]at g;exact absurd g (Px (qA n))
 ·cases hm:(AK k a.pa).2.2 with
  |true=>exact absurd ((DV (v:=v) x n na).1 hm).1 g
  |false=>exact⟨_,_,(DV (v:=v) x n na).2 hm⟩
 ·cases hm:(AK k a.pa).2.2 with
  |true=>exact absurd ((DV (v:=v) x n na).1 hm).1 g
  |false=>
   rw[(DV (v:=v) x n na).2 hm];show(if(Dq (A3 k (A_ 1 a.pa 0) false d) (A_ 1 a.pa 0)).2.2=true then 0 else 1)<(if(AK k a.pa).2.2=true then 0 else 1);rw[(Gg k _ d _).1 rfl,hm];decide
def Wp(v:Vw)(a:Ak)(k:Kn):Oc:=
 if(EY k ([109,47]++a.pa++[47])).2.2=false then Dy v ([109,47]++a.pa++[47]) true
 else {GI v with rep:=Hg (.names (decide (FT a.pa (BW (EY k ([109,47]++a.pa++[47])).2.1)=[])) ((nC a.pa (BW (EY k ([109,47]++a.pa++[47])).2.1)).take 64))}
def Uc{z:Bs}{l:List Bs}(h:FT z l=[]):nC z l=[]:=by unfold nC eN;rw[h,List.mergeSort_nil];rfl
def xY{l:List Bs}(h:∀s∈l,s.length<=1000000):∀s∈BW l,s.length<=1000000:=λs r=>Qe (Cn (NI r)) V
def aBg{v:Vw}{a:Ak}(x:G6 v)(j:I2 a)(q:jT [Hj v,GW a]=some (.int .i64 0))(na:a.op=17):G9 v a (Wp v a):=by
 have y:a.pa.length<=1000000:=Yk
 refine⟨λk s=>?_,λk s g=>?_,λk s g=>?_,λk=>if(EY k ([109,47]++a.pa++[47])).2.2=true then 0 else 1,λk=>by dsimp only;split<;>decide,λk d s g=>?_⟩
 ·have p:k.ls.length<=1000:=by have:=s.ls;omega
  have r:=aHM k ([109,47]++a.pa++[47]) p;unfold Wp;cases hm:(EY k ([109,47]++a.pa++[47])).2.2 with
  |false=>
   rw[if_pos rfl];rw[hm]at r;exact Bp .o17 a k na q _ _ (aCM RR ⟨v,a,k⟩ (GI v) _ _ (λ_=>rfl) _ _ y r (OQ ⟨v,a,k⟩ (GI v) _ _ (HM v)))
  |true=>
   rw[if_neg V];rw[hm]at r;obtain⟨o,u⟩:=aNk s ([109,47]++a.pa++[47]);generalize (EY k ([109,47]++a.pa++[47])).2.1=f at *;have c:=qE f;have z:=aOD a.pa (BW f);exact Bp .o17 a k na q _ _ (aON RR ⟨v,a,k⟩ (GI v) _ (λ_=>rfl) _ _ y r o u (decide (FT a.pa (BW f)=[])) (nC a.pa (BW f)) (λb _=>aHV O (xY u)) O (λe=>Uc (of_decide_eq_true e)) (Gq ⟨v,a,k⟩ (GI v) (.names _ _) (λ_=>rfl) (by show((nC a.pa (BW f)).take 64).length<=1000;rw[Zr];omega) (λe=>by rw[Uc (of_decide_eq_true e)];rfl)))
 ·unfold Wp at g ⊢;cases hm:(EY k ([109,47]++a.pa++[47])).2.2 with
  |false=>rw[hm,if_pos rfl]at g;simp[Dy]at g
  |true=>
   rw[if_neg V];exact DA (.names _ _) (if_pos ⟨XC,aCg _ _⟩) (λe=>by rw[Uc (of_decide_eq_true e)];rfl) rfl Xm (I4 O) rfl v.se (λ_ _=>rfl) rfl
 ·unfold Wp at g ⊢;cases hm:(EY k ([109,47]++a.pa++[47])).2.2 with
  |true=>rw[hm,if_neg V]at g;exact absurd rfl g
  |false=>exact⟨_,_,if_pos rfl⟩
 ·unfold Wp at g ⊢;cases hm:(EY k ([109,47]++a.pa++[47])).2.2 with
  |true=>rw[hm,if_neg V]at g;exact absurd rfl g
  |false=>
   rw[if_pos rfl];show(if(EY (A3 k ([109,47]++a.pa++[47]) true d) ([109,47]++a.pa++[47])).2.2=true then 0 else 1)<(if(EY k ([109,47]++a.pa++[47])).2.2=true then 0 else 1);rw[aF2,hm];decide
def MZ(a:Ak):Int:=if a.op=18 then 0 else a.n
def Fq(k:Kn)(a:Ak):Rw×Int:=Hx (Lg (DK (AK k a.pa))) (MZ a)
def Cb(k:Kn)(a:Ak):Bs:=A_ 2 a.pa (Fq k a).1.1
def R2(k:Kn)(a:Ak):Bs:=if(Dq k (Cb k a)).2.1=true then(Dq k (Cb k a)).1 else []
def Dh(v:Vw)(a:Ak)(k:Kn):Oc:=
 if(AK k a.pa).2.2=false then Dy v (A_ 1 a.pa 0) false
 else if(DK (AK k a.pa)).isSome=false then HE v 6
 else if(Fq k a).2≠0 then HE v (Fq k a).2
 else if(Dq k (Cb k a)).2.2=false then Dy v (Cb k a) false
 else if a.op=9 then {GI v with rep:=Hg (.found (Fq k a).1.1 (R2 k a))}
 else if(AK k a.ot).2.2=false then Dy v (A_ 1 a.ot 0) false
 else HQ v a.ot (Lg (DK (AK k a.ot))) (-1) (R2 k a)
section
variable{v:Vw}{a:Ak}{k:Kn}
def Vs(s:HP k):(R2 k a).length<=400:=by
 grind [R2,mH]
def aFd(r:Rw):rwD r= .agg [.int .i64 r.1,.bool r.2.1,.bool r.2.2]:=rfl
def aUH(x:G6 v)(j:I2 a)(s:HP k)(na:a.op=9∨a.op=18):∃ol,Vb ⟨v,a,k⟩ (GI v) []=some (.tup [],Dh v a k,ol):=by
 have g:a.pa.length<=1000000:=Yk
 have m:a.ot.length<=1000000:=by have:=j.ok.ot;omega
 have p:k.es.length<=1000:=by have:=s.es;omega
 have w:=Vs (a:=a) s;unfold Dh;cases hm:(AK k a.pa).2.2 with
 |false=>
  rw[if_pos rfl];exact⟨_,aCL ⟨v,a,k⟩ (GI v) _ _ _ (λ_=>rfl) (MK s g hm)⟩
 |true=>
  rw[if_neg V];have z:=Le (v:=v) (a:=a) s g hm;have d:=Gc (AK k a.pa);have hl:=d.len;cases hs:(DK (AK k a.pa)).isSome with
  |false=>
   rw[if_pos rfl];rw[hs]at z;exact⟨_,aCK ⟨v,a,k⟩ (GI v) _ _ _ (λ_=>rfl) z (vT v a k V)⟩
  |true=>
   rw[if_neg V];rw[hs]at z;have i:=aHL (Lg (DK (AK k a.pa))) (MZ a) O;rw[aFd]at i;have c:=lB (Lg (DK (AK k a.pa))) (MZ a);have r:=CP 2 (Fq k a).1.1 a.pa g;have y:=OS k (Cb k a) p;unfold R2 at w ⊢;unfold Fq Cb Fq at *;generalize Hx (Lg (DK (AK k a.pa))) (MZ a)=row at *;obtain⟨⟨n,o,r2⟩,e⟩:=row;simp only at *;by_cases f:e≠0
   ·rw[if_pos f];rcases na with h9|h18
    ·have b:MZ a=a.n:=by unfold MZ;rw[h9];rfl
     rw[b]at i;exact⟨_,tY ⟨v,a,k⟩ (GI v) _ _ _ (λ_=>rfl) z h9 n e o r2 i f (vT v a k O)⟩
    ·have b:MZ a=0:=by unfold MZ;rw[if_pos h18]
     rw[b]at i;exact⟨_,jI ⟨v,a,k⟩ (GI v) _ _ _ (λ_=>rfl) z h18 n e o r2 i f (vT v a k O)⟩
   ·rw[if_neg f];obtain rfl:=Decidable.not_not.1 f;generalize A_ 2 a.pa n=q at *;generalize Dq k q=en at *;obtain⟨t1,t2,t3⟩:=en;simp only at *;rcases na with h9|h18
    ·have b:MZ a=a.n:=by unfold MZ;rw[h9];rfl
     rw[b]at i;cases t3 with
     |false=>
      rw[if_pos rfl];exact⟨_,tW ⟨v,a,k⟩ (GI v) _ _ _ (λ_=>rfl) z h9 n o r2 i q _ _ r y (OQ ⟨v,a,k⟩ (GI v) q false (HM v))⟩
     |true=>
      rw[if_neg V,if_pos h9];cases t2 with
      |true=>exact⟨_,cM ⟨v,a,k⟩ (GI v) _ _ _ (λ_=>rfl) z h9 n o r2 i q _ r y (Gq ⟨v,a,k⟩ (GI v) (.found n t1) (λ_=>rfl) trivial trivial)⟩
      |false=>exact⟨_,UP ⟨v,a,k⟩ (GI v) _ _ _ (λ_=>rfl) z h9 n o r2 i q _ r y (Gq ⟨v,a,k⟩ (GI v) (.found n []) (λ_=>rfl) trivial trivial)⟩
    ·have b:MZ a=0:=by unfold MZ;rw[if_pos h18]
     have h9:¬a.op=9:=O
     rw[b]at i;cases t3 with
     |false=>
      rw[if_pos rfl];exact⟨_,jH ⟨v,a,k⟩ (GI v) _ _ _ (λ_=>rfl) z h18 n o r2 i q _ _ r y (OQ ⟨v,a,k⟩ (GI v) q false (HM v))⟩
     |true=>
      rw[if_neg V,if_neg h9];cases hm2:(AK k a.ot).2.2 with
      |false=>
       rw[if_pos rfl];have u:=MK (v:=v) (a:=a) s m hm2;cases t2 with
       |true=>exact⟨_,Ns ⟨v,a,k⟩ (GI v) _ _ (λ_=>rfl) z h18 n o r2 i q _ r y _ _ u⟩
       |false=>exact⟨_,MA ⟨v,a,k⟩ (GI v) _ _ (λ_=>rfl) z h18 n o r2 i q _ r y _ _ u⟩
      |true=>
       rw[if_neg V];have u:=Le (v:=v) (a:=a) s m hm2;cases t2 with
       |true=>
        obtain⟨ol,t⟩:=aMv (a:=a) (k:=k) x m (Gc (AK k a.ot)) (cas:=-1) (data:=t1) (by simp only[if_true]at w;omega);exact⟨_,cN ⟨v,a,k⟩ (GI v) _ _ _ (λ_=>rfl) z h18 n o r2 i q _ r y _ _ u t⟩
       |false=>
        obtain⟨ol,t⟩:=aMv (a:=a) (k:=k) x m (Gc (AK k a.ot)) (cas:=-1) (data:=[]) (Qs _);exact⟨_,UQ ⟨v,a,k⟩ (GI v) _ _ _ (λ_=>rfl) z h18 n o r2 i q _ r y _ _ u t⟩
def mV(m:G6 v)(s:HP k)(n:AP a.pa=0)(i:a.op=18->AP a.ot=0)(na:a.op=9∨a.op=18):((Dh v a k).need=[]->Iy v a (Dh v a k))∧((Dh v a k).need≠[]->∃q li,Dh v a k=Dy v q li):=by
 have w:=Vs (a:=a) s;have fin:∀{o:Oc},o.need=[]->Iy v a o->(o.need=[]->Iy v a o)∧(o.need≠[]->∃q li,o=Dy v q li):=λu y=>⟨λ_=>y,λh=>absurd u h⟩
 have b:∀{q:Bs} {li:Bool},q≠[]->((Dy v q li).need=[]->Iy v a (Dy v q li))∧((Dy v q li).need≠[]->∃j d,Dy v q li=Dy v j d):=λh=>⟨λe=>absurd e h,λ_=>⟨_,_,rfl⟩⟩
 unfold Dh;cases hm:(AK k a.pa).2.2 with
 |false=>rw[if_pos rfl];exact b (Px (qA n))
 |true=>
  rw[if_neg V];cases hs:(DK (AK k a.pa)).isSome with
  |false=>rw[if_pos rfl];exact fin rfl (BR V)
  |true=>
   rw[if_neg V];have c:=lB (Lg (DK (AK k a.pa))) (MZ a);by_cases z:(Fq k a).2≠0
   ·rw[if_pos z];exact fin rfl (BR ⟨by unfold Fq at *;omega,c.2⟩)
   rw[if_neg z];have x:1<=(Fq k a).1.1∧(Fq k a).1.1<=30:=xO (Gc _) (Decidable.not_not.1 z);cases ht:(Dq k (Cb k a)).2.2 with
   |false=>rw[if_pos rfl];exact b (Px (aMW n x))
   |true=>
    rw[if_neg V];by_cases r:a.op=9
    ·rw[if_pos r];exact fin rfl (DA (.found _ _) (if_pos ⟨O,O,w⟩) trivial rfl Xm (I4 O) rfl v.se (λ_ _=>rfl) rfl)
    rw[if_neg r];have la:a.op=18:=O
    cases hm2:(AK k a.ot).2.2 with
    |false=>rw[if_pos rfl];exact b (Px (qA (i la)))
    |true=>
     rw[if_neg V];obtain⟨t,g⟩:=RU (v:=v) (a:=a) m (p:=a.ot) (Gc (AK k a.ot)) (cas:=-1) (data:=R2 k a) (i la) (Nz O);exact fin t g
def Fa(k:Kn)(a:Ak):Nat:=if(AK k a.pa).2.2=false then 3 else if(Dq k (Cb k a)).2.2=false then 2 else if(AK k a.ot).2.2=false then 1 else 0
def aFq(k:Kn)(a:Ak):Fa k a<=3:=by
 unfold Fa
 repeat' split
 all_goals decide
def sC(g:(Dh v a k).need≠[]):((AK k a.pa).2.2=false∧Dh v a k=Dy v (A_ 1 a.pa 0) false)∨((AK k a.pa).2.2=true∧(Dq k (Cb k a)).2.2=false∧Dh v a k=Dy v (Cb k a) false)∨((AK k a.pa).2.2=true∧(Dq k (Cb k a)).2.2=true∧(AK k a.ot).2.2=false∧Dh v a k=Dy v (A_ 1 a.ot 0) false):=by
 unfold Dh at g ⊢;cases hm:(AK k a.pa).2.2 with
 |false=>rw[if_pos rfl];exact .inl ⟨rfl,rfl⟩
 |true=>
  rw[hm,if_neg V]at g;rw[if_neg V];split at g
  ·exact absurd rfl g
  rename_i c1;rw[if_neg c1];split at g
  ·exact absurd rfl g
  rename_i p;rw[if_neg p];cases ht:(Dq k (Cb k a)).2.2 with
  |false=>rw[if_pos rfl];exact .inr (.inl ⟨rfl,rfl,rfl⟩)
  |true=>
   rw[ht,if_neg V]at g;rw[if_neg V];split at g
   ·exact absurd rfl g
   rename_i o;rw[if_neg o];cases hm2:(AK k a.ot).2.2 with
   |false=>rw[if_pos rfl];exact .inr (.inr ⟨rfl,rfl,rfl,rfl⟩)
   |true=>
    rw[hm2,if_neg V]at g;unfold HQ at g;split at g
    ·exact absurd rfl g
    ·exact absurd rfl g
def sD(d:Dk)(g:(Dh v a k).need≠[]):Fa (A3 k (Dh v a k).need (Dh v a k).li d) a<Fa k a:=by
 rcases sC g with ⟨u,y⟩|⟨u,y,p⟩|⟨u,y,p,n⟩
 ·rw[y];show Fa (A3 k (A_ 1 a.pa 0) false d) a<Fa k a;have e:(AK (A3 k (A_ 1 a.pa 0) false d) a.pa).2.2=true:=(Gg k _ d _).1 rfl;unfold Fa;rw[e,u];simp only[Zl,if_false,if_true]
  repeat' split
  all_goals decide
 ·rw[p];show Fa (A3 k (Cb k a) false d) a<Fa k a;have c:A_ 1 a.pa 0≠Cb k a:=λe=>by
   unfold AK at u;rw[e,y]at u;cases u
  have e:AK (A3 k (Cb k a) false d) a.pa=AK k a.pa:=(Gg k _ d _).2 c.symm;have f:Fq (A3 k (Cb k a) false d) a=Fq k a:=by unfold Fq;rw[e]
  have w:Cb (A3 k (Cb k a) false d) a=Cb k a:=by
   show A_ 2 a.pa (Fq (A3 k (Cb k a) false d) a).1.1=A_ 2 a.pa (Fq k a).1.1;rw[f]
  have q:(Dq (A3 k (Cb k a) false d) (Cb k a)).2.2=true:=(Gg k _ d _).1 rfl;unfold Fa;rw[e,u,y,w,q];simp only[Zl,if_false,if_true];split<;>decide
 ·rw[n];show Fa (A3 k (A_ 1 a.ot 0) false d) a<Fa k a;have c:A_ 1 a.pa 0≠A_ 1 a.ot 0:=λe=>by
   unfold AK at u p;rw[e,p]at u;cases u
  have z:Cb k a≠A_ 1 a.ot 0:=λe=>by
   unfold AK at p;rw[e,p]at y;cases y
  have e:AK (A3 k (A_ 1 a.ot 0) false d) a.pa=AK k a.pa:=(Gg k _ d _).2 c.symm;have f:Fq (A3 k (A_ 1 a.ot 0) false d) a=Fq k a:=by unfold Fq;rw[e]
  have w:Cb (A3 k (A_ 1 a.ot 0) false d) a=Cb k a:=by
   show A_ 2 a.pa (Fq (A3 k (A_ 1 a.ot 0) false d) a).1.1=A_ 2 a.pa (Fq k a).1.1;rw[f]
  have q:Dq (A3 k (A_ 1 a.ot 0) false d) (Cb k a)=Dq k (Cb k a):=(Gg k _ d _).2 z.symm;have b:(AK (A3 k (A_ 1 a.ot 0) false d) a.ot).2.2=true:=(Gg k _ d _).1 rfl;unfold Fa;rw[e,u,w,q,y,b,p];decide
end
def W5{v:Vw}{a:Ak}(x:G6 v)(j:I2 a)(q:jT [Hj v,GW a]=some (.int .i64 0))(n:AP a.pa=0)(i:a.op=18->AP a.ot=0)(na:a.op=9∨a.op=18):G9 v a (Dh v a):=by
 refine⟨λk s=>?_,λk s g=>(mV x s n i na).1 g,λk s g=>(mV x s n i na).2 g,λk=>Fa k a,λk=>aFq k a,λk d _ g=>sD d g⟩;obtain⟨ol,h⟩:=aUH x j s na;rcases na with e|e
 ·exact Bp .o9 a k e q _ _ h
 ·exact Bp .o18 a k e q _ _ h
def aGn{v:Vw}{a:Ak}(x:G6 v)(j:I2 a):∃z,G9 v a z∧(EH v a≠0->∀k,z k=HE v (EH v a)):=by
 have q:=IA x.ok j.ok;have m:=lA v a;by_cases h:EH v a=0
 ·rw[h]at q;have o:=iO h;obtain⟨u,y⟩:=aQK o j.ok.op0;by_cases c:a.op<=8
  ·simp_all [aGl]
  have n:=aFu o O y;by_cases ta:a.op=17
  ·exact⟨_,aBg x j q ta,λe=>absurd h e⟩
  by_cases i:a.op=9∨a.op=18
  ·exact⟨_,W5 x j q n (λe=>yA o e) i,λe=>absurd h e⟩
  ·exact⟨_,PP x j q n O,λe=>absurd h e⟩
 ·exact⟨_,W3 q O,λ_ _=>rfl⟩
def O4{q:UInt8}:∀{l:List Bs},l≠[]->(∀w∈l,q∉w)->splitC q (Lib.join l [q])=l
 |[],h,_=>absurd rfl h
 |[x],_,h=>by
  have e:Lib.join [x] [q]=x:=XQ
  rw[e];exact split_one (h x (List.mem_singleton_self _))
 |x::y::r,_,h=>by
  have e:Lib.join (x::y::r) [q]=x++q::Lib.join (y::r) [q]:=XQ
  rw[e,split_word (h x (Qy ..)),O4 U (λw k=>h w (Qv _ k))]
def Nx{s:Bs}{q:UInt8}(h:s.length<=1000000):DJ [.str s,.str [q]]=some (.slice false [] (strsD (splitC q s))):=if_pos h
def ryQ:Ry->Ry
 | .about s=> .about {s with nl:=decide (s.rs=[])}
 | .names _ l=> .names (decide (l=[])) l
 |y=>y
def ryS:Ry->Prop
 | .fail _=>False
 | .names _ l=>(∀w∈l,(44:UInt8)∉w)∧l≠[[45]]∧CA l<=900000
 |_=>True
def ten{p:Nat->Value->Prop}{vs:Array Value}{i a z w t q e n s r:Value}(x:vs=#[i,a,z,w,t,q,e,n,s,r])(h:∀j v,vs[j]?=some v->p j v):p 0 i∧p 1 a∧p 2 z∧p 3 w∧p 4 t∧p 5 q∧p 6 e∧p 7 n∧p 8 s∧p 9 r:=by
 subst x;exact⟨h 0 _ rfl,h 1 _ rfl,h 2 _ rfl,h 3 _ rfl,h 4 _ rfl,h 5 _ rfl,h 6 _ rfl,h 7 _ rfl,h 8 _ rfl,h 9 _ rfl⟩
def f93(e:Int):Array Value:=#[.int .u8 0,.int .i64 e,.int .i64 0,.string ⟨#[]⟩,.slice none 0 0,.int .i64 0,.bool false,.int .i64 0,.slice none 0 0,.bool false]
inductive Psd:Bs->D->Prop
 |none:Psd [] (.tup [.agg (Hh (.fail 0)),.int .i64 4])
 |fail (e:Int) (s:Bs):1<=e∧e<=99->splitC 32 s=NB (.fail e)->Psd s (.tup [.agg (Hh (.fail e)),.int .i64 0])
 |ok (y:Ry) (s:Bs):ryG y->ryS y->LE y=0->splitC 32 s=NB y->Psd s (.tup [.agg (Hh (ryQ y)),.int .i64 0])
def aGe(d:Nat)(h:d<16):48<=(Fv d).toNat:=by
 by_cases u:d<10
 ·rw[aAI d u];omega
 ·rw[aAH d h O];omega
def aGf(s:Bs):∀c∈BQ s,48<=c.toNat:=λc o=>by
 unfold BQ at o;rw[List.mem_flatMap]at o;obtain⟨b,_,m⟩:=o;have:=b.toNat_lt;simp only[Qq,List.not_mem_nil,or_false]at m;rcases m with rfl|rfl<;>exact aGe _ O
structure Md where
 vw:Vw
 tr:Tr
 room:Int
def GP(m:Md):List D:=Hc m.vw++[GK m.tr,.int .i64 m.room]
def V_(x:Op1)(t:Tr):Tr:=if x.1=1 then t.put x.2.1 x.2.2 else if x.1=2 then Tr.delT x.2.1 t else if x.1=3 then Tr.dropT x.2.1 t else t
def FQ:List Op1->Tr->Tr
 |[],t=>t
 |x::r,t=>FQ r (V_ x t)
def Bw(t:Tr)(q:Bs):List (Bs×Bs):=(t.lst.drop (t.rank q)).takeWhile λx=>BX x.1 q
def Fs(t:Tr)(q:Bs):Dk:=⟨false,[(q,(t.get q).getD [],(t.get q).isSome)],false,[(q,(Bw t q).isEmpty,(Bw t q).map (·.1))]⟩
def eP(z:Kn->Oc)(t:Tr):Nat->Kn->Oc
 |0,k=>z k
 |f+1,k=>if(z k).need=[]then z k else eP z t f (A3 k (z k).need (z k).li (Fs t (z k).need))
def kn0:Kn:=⟨[],[]⟩
structure uE (t:Tr) (room:Int):Prop where
 ord:Tr.Ord t.lst
 key:∀x∈t.lst,x.1.length<=100
 val:∀x∈t.lst,x.2.length<=400
 wgt:(Tr.weighL t.lst:Int)<=room
 top:room<=70000
structure N8 (m:Md):Prop where
 vw:G6 m.vw
 tr:uE m.tr m.room
def uE.len{t:Tr}{room:Int}(h:uE t room):t.lst.length<=1945:=by
 have u:=Tr.weigh_len t.lst;have:=h.wgt;have:=h.top;omega
structure KnJ (k:Kn) (j:Nat):Prop where
 es:k.es.length<=j
 ls:k.ls.length<=j
 et:∀x∈k.es,x.2.1.length<=400
 lt:∀x∈k.ls,x.2.2.length<=2000∧∀s∈x.2.2,s.length<=1000000
def KnJ.ok{k:Kn}{j:Nat}(h:KnJ k j)(u:j<=20):HP k:=⟨Qe h.es u,Qe h.ls u,h.et,h.lt⟩
def aJn:KnJ kn0 0:=⟨Qg _,Qg _,λx q=>XE,λx q=>XE⟩
def aNm(t:Tr)(q:Bs):((Fs t q).lss.find? λx=>decide (x.1=q))=some (q,(Bw t q).isEmpty,(Bw t q).map (·.1)):=by simp[Fs]
def aNn(t:Tr)(q:Bs):((Fs t q).its.find? λx=>decide (x.1=q))=some (q,(t.get q).getD [],(t.get q).isSome):=by simp[Fs]
def zW(k:Kn)(t:Tr)(q:Bs):A3 k q false (Fs t q)={k with es:=k.es++[(q,(t.get q).getD [],(t.get q).isSome)]}:=by
 unfold A3;rw[if_neg V,aNn];rfl
def zV(k:Kn)(t:Tr)(q:Bs):A3 k q true (Fs t q)={k with ls:=k.ls++[(q,(Bw t q).isEmpty,(Bw t q).map (·.1))]}:=by
 unfold A3;rw[if_pos rfl,aNm];rfl
def kG(t:Tr)(q:Bs):(Bw t q).Sublist t.lst:=(List.takeWhile_sublist _).trans (List.drop_sublist _ _)
def KnJ.learn{k:Kn}{j:Nat}(h:KnJ k j){t:Tr}{room:Int}(o:uE t room)(q:Bs)(li:Bool):KnJ (A3 k q li (Fs t q)) (j+1):=by
 cases li with
 |false=>
  rw[zW];refine⟨by simp only[Qd,Qb,Qf];have:=h.es;omega,Zo h.ls,λx hx=>?_,h.lt⟩;rcases Zg.1 hx with hx|hx
  ·exact h.et x hx
  ·rw[Qn.1 hx];show((t.get q).getD []).length<=400;cases hg:t.get q with
   |none=>exact Qs _
   |some v=>
    rw[Tr.get_lst q t o.ord]at hg;exact o.val _ (Tr.getL_some hg)
 |true=>
  rw[zV];refine⟨Zo h.es,by simp only[Qd,Qb,Qf];have:=h.ls;omega,h.et,λx hx=>?_⟩;rcases Zg.1 hx with hx|hx
  ·exact h.lt x hx
  ·rw[Qn.1 hx];have r:=kG t q;refine⟨?_,λs z=>?_⟩
   ·show((Bw t q).map (·.1)).length<=2000;rw[Qu];have:=r.length_le;have:=o.len;omega
   ·obtain⟨y,i,rfl⟩:=QQ.1 z;exact Qe (o.key y (r.subset i)) V
def kX{v:Vw}{a:Ak}{z:Kn->Oc}(X:G9 v a z){R:Kn->Nat}(w:∀k d,HP k->(z k).need≠[]->R (A3 k (z k).need (z k).li d)<R k){t:Tr}{room:Int}(o:uE t room):
  ∀(f j:Nat)(k:Kn),KnJ k j->j+f<=20->R k<=f->∃p,HP p∧eP z t f k=z p∧(z p).need=[]
 |0,j,k,hk,hj,hr=>by
  have l:=hk.ok O;refine⟨k,l,rfl,?_⟩;by_cases g:(z k).need=[]
  ·exact g
  ·have:=w k (Fs t []) l g;omega
 |f+1,j,k,hk,hj,hr=>by
  have l:=hk.ok O;unfold eP;by_cases g:(z k).need=[]
  ·rw[if_pos g];exact⟨k,l,rfl,g⟩
  ·rw[if_neg g];have:=w k (Fs t (z k).need) l g;exact kX X w o f (j+1) _ (hk.learn o _ _) O O
def jY{v:Vw}(x:G6 v)(b:Bool):G6 {v with se:=b}:=⟨⟨x.ok.ml,x.ok.mp,x.ok.kl,x.ok.kp⟩,x.inv,x.srt,x.nlm,x.te,x.kl,x.ml,x.mr⟩
def FP(z:Kn->Oc)(m:Md):Oc:=eP z m.tr 4 kn0
def TK{m:Md}(t:N8 m){a:Ak}{z:Kn->Oc}(X:G9 m.vw a z):(FP z m).need=[]∧∃k,HP k∧FP z m=z k:=by
 obtain⟨R,p,w⟩:=X.term;obtain⟨k,u,y,n⟩:=kX X w t.tr 4 0 kn0 aJn V (Qe (p _) V);exact⟨(congrArg Oc.need y).trans n,k,u,y⟩
def Fg(m:Md)(o:Oc):Md×Bs:=
 if o.ops≠[]∧m.room<Tr.weighL (FQ o.ops m.tr).lst then(m,Hg (.fail 7))else(⟨o.vw,FQ o.ops m.tr,m.room⟩,o.rep)
def IN(x:Op1){t:Tr}(h:Tr.Ord t.lst):Tr.Ord (V_ x t).lst∧∀y∈(V_ x t).lst,y∈t.lst∨(x.1=1∧y=(x.2.1,x.2.2)):=by
 unfold V_;split
 ·rename_i c;rw[Tr.lst_put _ _ t h];exact⟨Tr.ins_ord h _ _,λy o=>(Tr.ins_mem o).elim (λe=> .inr ⟨c,e⟩) .inl⟩
 split
 ·rw[Tr.lst_del _ t h];exact⟨Tr.ord_sub Zh h,λy o=> .inl (Zt.1 o).1⟩
 split
 ·rw[Tr.lst_drop _ t h];exact⟨Tr.ord_sub (Tr.drop_sub _ h) h,λy o=> .inl ((Tr.drop_sub _ h).subset o)⟩
 ·exact⟨h,λy o=> .inl o⟩
def TP:∀(l:List Op1){t:Tr},Tr.Ord t.lst->Tr.Ord (FQ l t).lst∧∀y∈(FQ l t).lst,y∈t.lst∨∃x∈l,x.1=1∧y=(x.2.1,x.2.2)
 |[],t,h=>⟨h,λy o=> .inl o⟩
 |x::r,t,h=>by
  obtain⟨u,f⟩:=IN x h;obtain⟨p,n⟩:=TP r u;refine⟨p,λy o=>?_⟩;rcases n y o with h5|⟨z,i,h5⟩
  ·rcases f y h5 with h6|h6
   ·exact .inl h6
   ·exact .inr ⟨x,Qy,h6⟩
  ·exact .inr ⟨z,Qv _ i,h5⟩
def aE1{t:Tr}{room:Int}(h:uE t room){l:List Op1}(hl:uN l)(k:(Tr.weighL (FQ l t).lst:Int)<=room):uE (FQ l t) room:=by
 obtain⟨u,y⟩:=TP l h.ord;refine⟨u,λx q=>?_,λx q=>?_,k,h.top⟩
 ·rcases y x q with h3|⟨z,i,_,rfl⟩
  ·exact h.key x h3
  ·exact(hl.ok z i).1.1
 ·rcases y x q with h3|⟨z,i,_,rfl⟩
  ·exact h.val x h3
  ·exact(hl.ok z i).1.2.1
structure aWc (m:Md) (a:Ak) (z:Md×Bs):Prop where
 md:N8 z.1
 room:z.1.room=m.room
 key:z.1.vw.key=m.vw.key
 rep:∃y,LE y=0∧ryN y∧z.2=Hg y∧((∃e,y= .fail e)->z.1=m)
 ro:(a.op=1∨a.op=9∨a.op=14∨a.op=17)->z.1=m
def On{m:Md}(t:N8 m){a:Ak}{o:Oc}(q:Iy m.vw a o):aWc m a (Fg m o):=by
 obtain⟨y,u,f,p,n⟩:=q;have c:DX a.op=true->¬(a.op=1∨a.op=9∨a.op=14∨a.op=17):=λk h=>by
  rw[I4 O]at k;cases k
 unfold Fg;by_cases v:o.ops≠[]∧m.room<Tr.weighL (FQ o.ops m.tr).lst
 ·rw[if_pos v];exact⟨t,rfl,rfl,⟨.fail 7,rfl,trivial,rfl,λ_=>rfl⟩,λ_=>rfl⟩
 rw[if_neg v];rcases n with ⟨_,s,g⟩|⟨s,⟨k,g,b,w,x⟩|⟨k,g,x,h8,i⟩⟩
 ·rw[s,g];exact⟨t,rfl,rfl,⟨y,u,f,p,λ_=>rfl⟩,λ_=>rfl⟩
 ·rw[g,x];refine⟨⟨jY t.vw b,t.tr⟩,rfl,rfl,⟨y,u,f,p,λ⟨e,z⟩=>absurd z (s e)⟩,λj=>?_⟩;rw[w O O];rfl
 ·refine⟨⟨h8,aE1 t.tr x ?_⟩,rfl,i,⟨y,u,f,p,λ⟨e,z⟩=>absurd z (s e)⟩,λj=>absurd j (c k)⟩;have:¬m.room<Tr.weighL (FQ o.ops m.tr).lst:=λh=>v ⟨g,h⟩
  omega
def wB{α:Type}{p:α->Bool}:∀{l:List α} {k:Nat} (h:k<(l.takeWhile p).length),l[k]?=some (l.takeWhile p)[k]∧p (l.takeWhile p)[k]=true
 |[],k,h=>Xe
 |x::l,k,h=>by
  by_cases c:p x=true
  ·have e:(x::l).takeWhile p=x::l.takeWhile p:=by simp[c]
   simp only[e]at h ⊢;cases k with
   |zero=>exact⟨rfl,c⟩
   |succ k=>
    have:=wB (l:=l) (p:=p) (k:=k) Xp;simpa using this
  ·have e:(x::l).takeWhile p=[]:=by simp[c]
   simp[e]at h
def wD{α:Type}{p:α->Bool}:∀{l:List α},(∀x∈l,p x=true)->l.takeWhile p=l
 |[],_=>rfl
 |x::l,h=>by
  have c:=h x Qy;have e:(x::l).takeWhile p=x::l.takeWhile p:=by simp[c]
  rw[e,wD λy o=>h y (Qv _ o)]
def wC{α:Type}{p:α->Bool}:∀{l:List α} {x:α},l[(l.takeWhile p).length]?=some x->p x=false
 |[],x,h=>Xe
 |y::l,x,h=>by
  by_cases c:p y=true
  ·have e:(y::l).takeWhile p=y::l.takeWhile p:=by simp[c]
   rw[e]at h;exact wC (l:=l) Xp
  ·have e:(y::l).takeWhile p=[]:=by simp[c]
   rw[e]at h;simp only[Qf,Qo,QM]at h;subst h;simpa using c
def aMD{t:Tr}{q:Bs}{k:Nat}(h:k<(Bw t q).length):t.at_ (t.rank q+k)=some (Bw t q)[k]∧BX (Bw t q)[k].1 q=true:=by
 rw[Tr.at_lst];have:=wB (l:=t.lst.drop (t.rank q)) (p:=λx=>BX x.1 q) h;rw[Zm]at this;exact this
def aEN{t:Tr}{q:Bs}{x:Bs×Bs}(h:t.at_ (t.rank q+(Bw t q).length)=some x):BX x.1 q=false:=by
 rw[Tr.at_lst]at h;refine wC (l:=t.lst.drop (t.rank q)) (p:=λx=>BX x.1 q) ?_;rw[Zm];exact h
def VP:∀t:Tr,t.rank []=0
 | .nil=>rfl
 | .node l k v r=>by
  unfold Tr.rank;rw[if_neg (by cases k<;>simp[GU,Op.bytesLess])];exact VP l
def IC(t:Tr):Bw t []=t.lst:=by
 unfold Bw;rw[VP,List.drop_zero];exact wD λx _=>by simp[BX]
def eA(x:Bs×Bs)(l:List (Bs×Bs)):Tr.weighL (x::l)=Tr.costL x+Tr.weighL l:=by
 simp only[Tr.weighL,Ql,Qm];omega
def dZ(x:Bs×Bs)(l:List (Bs×Bs)):Tr.weighL (l++[x])=Tr.weighL l+Tr.costL x:=by
 simp only[Tr.weighL,QX,Ql,Qt,List.sum_append,Qm,Qw];omega
end Go.Vd
namespace Go.Vd
open Go.Proofs Go.RowKit Go.Shelf
attribute [local go_sem] Oper.semAt_some
def Ed(n:Nat)(w:World)(t:Tr)(v:Value):Prop:=∃G:Nat->Nat,Rep w (Gh.base G) (GK t) v∧∀b,n<=b->G b=0
def Ed.below{n:Nat}{w s:World}{t:Tr}{v:Value}(h:Ed n w t v)(m:Below n w s):Ed n s t v:=by
 obtain⟨G,u,y⟩:=h;refine⟨G,u.calm_to (Vp t) (λp g=>?_) (λ_=>Qg _),y⟩;have:p.block<n:=by
  rcases Nat.lt_or_ge p.block n with h|h
  ·exact h
  ·have x:p.off<G p.block:=g;rw[y _ h]at x;omega
 exact m.cell this
def Ed.one{n:Nat}{w:World}{t:Tr}{v:Value}(h:Ed n w t v):v.oneCell'=true:=by
 obtain⟨G,u,_⟩:=h;exact u.leaf_one Xk
def P4{w:World}{g:Gh}{d:D}{v:Value}(h:Rep w g d v)(q:v.oneCell'=true):Rep w g (.agg [d]) (.agg #[v]):=
 .agg [d] [v] rfl (λu z=>by rw[Qn.1 z];exact q) (λj n s p x=>by
  match j,p,x with
  |0,p,x=>cases p;cases x;exact h)
def aTP{n:Nat}{s:World}{t:Tr}{v:Value}(h:Ed n s t v)(g:n<=s.heap.size)(q:Bs)(o:t.cnt<=900000):Calls QA 49 #[.agg #[v],encStr q] s λe i=>e= .returned (.int .i64 (t.rank q:Nat))∧Below s.heap.size s i:=by
 have y:=h.one;obtain⟨G,f,x⟩:=h;refine(D6 (vs:=[.agg #[v],encStr q]) (G:=G) aNV (aDD t q o) Xk Xk rfl (λj d u p z=>?_) (λb m=>x b O)).mono ?_
 ·match j,p,z with
  |0,p,z=>cases p;cases z;exact P4 f y
  |1,p,z=>cases p;cases z;exact .str _
 ·rintro e i ⟨u,a,rfl,m,w⟩;exact⟨X1,m⟩
def aTO{n:Nat}{s:World}{t:Tr}{v:Value}(h:Ed n s t v)(g:n<=s.heap.size)(i:Nat)(o:t.cnt<=900000)(hi:i<=900000):Calls QA 50 #[.agg #[v],.int .i64 (i:Nat)] s λe c=>e= .returned (.tuple #[encStr ((t.at_ i).getD ([],[])).1,encStr ((t.at_ i).getD ([],[])).2,.bool (t.at_ i).isSome])∧Below s.heap.size s c:=by
 have q:=h.one;obtain⟨G,y,x⟩:=h;refine(D6 (vs:=[.agg #[v],.int .i64 (i:Nat)]) (G:=G) aNU (aDC t i o hi) Xk Xk rfl (λj d u p z=>?_) (λb m=>x b O)).mono ?_
 ·match j,p,z with
  |0,p,z=>cases p;cases z;exact P4 y q
  |1,p,z=>cases p;cases z;exact .int _ _
 ·rintro e c ⟨u,a,rfl,m,w⟩;unfold atD at w;obtain⟨us,rfl,r,z⟩:=w.tup_inv
  match us,r with
  |[u0,u1,u2],_=>exact⟨by rw[(z 0 _ u0 rfl rfl).str_inv,(z 1 _ u1 rfl rfl).str_inv,(z 2 _ u2 rfl rfl).bool_inv],m⟩
def aLP(y:World)(s p:Bs):Calls QA 51 #[encStr s,encStr p] y λe i=>e= .returned (.bool (BX s p))∧Below y.heap.size y i:=by
 refine(H5 aNT (aDB s p) rfl y).mono ?_;rintro e i ⟨u,a,rfl,m,w⟩;exact⟨by rw[w.bool_inv],m⟩
structure dV (n Bt Bq:Nat) (W W':World):Prop where
 low:Below n W W'
 t:W'.heap[Bt]?=W.heap[Bt]?
 q:W'.heap[Bq]?=W.heap[Bq]?
def dV.trans{n Bt Bq:Nat}{A B C:World}(h:dV n Bt Bq A B)(k:dV n Bt Bq B C):dV n Bt Bq A C:=⟨h.low.trans k.low,k.t.trans h.t,k.q.trans h.q⟩
def dV.refl{n Bt Bq:Nat}(A:World):dV n Bt Bq A A:=⟨Below.refl _ _,rfl,rfl⟩
def dV.of{n Bt Bq:Nat}{A B:World}(h:Below A.heap.size A B)(g:n<=A.heap.size)(j:Bt<A.heap.size)(v:Bq<A.heap.size):dV n Bt Bq A B:=⟨h.mono g,h.block _ j,h.block _ v⟩
def aAa{n Bt Bq:Nat}{w:World}(g:n<=w.heap.size)(j:Bt<w.heap.size)(v:Bq<w.heap.size)(W:World)(l:Nat)(o o':Obj)(hl:w.heap.size<=l)(h:W.heap[l]?=some o)(u:o.isCells=false)(y:o.isWalk=false):dV n Bt Bq W (W.putObj l o'):=
 ⟨belowK_b g W l o o' hl h u y,World.putObj_heap_other O,World.putObj_heap_other O⟩
def SY{α:Type}{B:Nat}{J:List α->World->Prop}(i:AbidesFrom B J){s:List α}{A t:World}(h:J s A)(m:Below A.heap.size A t):J s t:=
 i s A t none h (B_ m (Qg _) none m.size) (λr e=>Xv)
theorem aEO (n : Nat) (hn : 1 ≤ n) (l Bt Bq n₀ : Nat) (t : Tr) (q : Bs) (v : Value) (hc : t.cnt ≤ 400000) (J Jx : List (Bs × Bs) → World → Prop) {B : Nat} (hJ : AbidesFrom B J) (y : AbidesFrom B Jx)
  (hY : ∀ ba x W, J ba W → (ba ++ [x]) <+: Bw t q → YieldAt Fence.wide (n - 1) QA l #[encStr x.1, encStr x.2] W fun e W' =>
   (e = .returned (.bool true) ∧ J (ba ++ [x]) W' ∧ dV n₀ Bt Bq W W') ∨ (e = .returned (.bool false) ∧ Jx (ba ++ [x]) W'))
  (W : World) (c : W.heap[Bt]? = some (.cells #[v] 36 (0, 0))) (d : W.heap[Bq]? = some (.cells #[encStr q] 9 (0, 0))) (hT : Ed n₀ W t v) (ka : n₀ ≤ W.heap.size) (h0 : J [] W) :
  CallsIn Fence.wide n QA 48 #[.func (.yield l) #[] #[], .pointer (some ⟨Bt, 0, none⟩), .pointer (some ⟨Bq, 0, none⟩)] W fun e W' => (∃ u, e = .returned u) ∧
   ((∃ ys, ys = Bw t q ∧ J ys W') ∨ (∃ ba, ba <+: Bw t q ∧ Jx ba W')) := by
 have ja : t.rank q + (Bw t q).length ≤ 800001 := by
  have h1 := (kG t q).length_le
  have h2 : t.rank q ≤ t.cnt := by
   have : ∀ t : Tr, t.rank q ≤ t.cnt := by
    intro t
    induction t with
    | nil => exact Qg _
    | node l k v r ih1 ih2 => unfold Tr.rank; simp only [Tr.cnt]; split <;> omega
   exact this t
  rw [Tr.cnt_lst] at h1
  omega
 refine callsIn_of_wp func48 rfl trivial ?_ rfl
 simp only [ntmps48, QT, Qb, Qf, Qx, QJ, QN, QO, QU, QP, Qi, Qh]
 have ct := D_ c
 have cq := D_ d
 gi_wp2_with (refine ⟨trivial, ?_⟩; gi_at_call 49; refine (callsIn_wide.2 (aTP hT ka q O)).mono ?_; rintro e w1 ⟨rfl, la⟩)
 have aa := SY hJ h0 la
 have ia := hT.below (la.mono ka)
 have z : Bt < W.heap.size := (Qr.1 c).1
 have ma : Bq < W.heap.size := (Qr.1 d).1
 have k1 := (la.block _ z).trans c
 have k2 := (la.block _ ma).trans d
 have xa := Qe ka la.size
 gi_loopw [4] (fun i wr => ∃ k : Nat, k ≤ (Bw t q).length ∧ i = .int .i64 ((t.rank q : Int) + (k : Int)) ∧ J ((Bw t q).take k) wr ∧ n₀ ≤ wr.heap.size ∧ wr.heap[Bt]? = some (.cells #[v] 36 (0, 0)) ∧ wr.heap[Bq]? = some (.cells #[encStr q] 9 (0, 0)) ∧ Ed n₀ wr t v)
  (fun i _ => t.rank q + (Bw t q).length - (RowKit.intOf i).toNat)
 case atStart => exact ⟨0, Qs _, U, aa, xa, k1, k2, ia⟩
 case round =>
  obtain ⟨k, hk, rfl, f, j, r1, r2, w⟩ := hrel
  have oa := D_ r1
  have s := D_ r2
  have a := aTO w j (t.rank q + k) O O
  rw [Int.natCast_add] at a
  by_cases da : k < (Bw t q).length
  ·obtain ⟨u1, u2⟩ := aMD da
   rw [u1] at a
   obtain ⟨x, hx⟩ : ∃ x, (Bw t q)[k] = x := ⟨_, rfl⟩
   rw [hx] at a u2
   simp only [QI, Qk] at a
   have ra : (Bw t q).take k ++ [x] = (Bw t q).take (k + 1) := by rw [← hx]; exact (QH da).symm
   have fa : ((Bw t q).take k ++ [x]) <+: Bw t q := by rw [ra]; exact Zs _ _
   gi_wp2_with (first
    | (refine ⟨trivial, ?_⟩; gi_at_call 50; refine (callsIn_wide.2 a).mono ?_; rintro e w2 ⟨rfl, na⟩; have ga := EC na s)
    | (refine ⟨trivial, ?_⟩; gi_at_call 51; refine (callsIn_wide.2 (aLP _ x.1 q)).mono ?_; rintro e w3 ⟨rfl, ea⟩; rw [u2]; obtain ⟨fn, tmps, o, b, hy, hR⟩ := hY _ x w3 (SY hJ (SY hJ f na) ea) fa))
   refine hR.mono ?_
   have z3 : n₀ ≤ w3.heap.size := by have := na.size; have := ea.size; omega
   have l1 : Bt < wr.heap.size := (Qr.1 r1).1
   have l2 : Bq < wr.heap.size := (Qr.1 r2).1
   have p : Below wr.heap.size wr w3 := na.trans (ea.mono na.size)
   rintro e W4 (⟨rfl, ca, g⟩ | ⟨rfl, m⟩)
   ·gi_wp2
    go_roundw
    case rel =>
     refine ⟨k + 1, O, ?_, by rw [← ra]; exact ca, Qe z3 g.low.size, g.t.trans ((p.block _ l1).trans r1), g.q.trans ((p.block _ l2).trans r2), (w.below (p.mono j)).below g.low⟩
     simp
     omega
    case measure => simp [RowKit.intOf]; omega
   ·gi_wp2
    refine bodyPost_ret (results_none rfl _ _ _) rfl ?_
    exact ⟨⟨_, rfl⟩, .inr ⟨_, Zs (k + 1) _, by rw [← ra]; exact m⟩⟩
  ·obtain rfl : k = (Bw t q).length := by omega
   cases ha : t.at_ (t.rank q + (Bw t q).length) with
   | none =>
    rw [ha] at a
    simp only [Q9, Q5] at a
    gi_wp2_with (refine ⟨trivial, ?_⟩; gi_at_call 50; refine (callsIn_wide.2 a).mono ?_; rintro e w2 ⟨rfl, na⟩)
    refine ⟨trivial, ?_⟩
    gi_wp2
    refine ⟨fun _ h => Xd, ?_⟩
    gi_wp2
    refine bodyPost_ret (results_none rfl _ _ _) rfl ?_
    rw [QZ] at f
    exact ⟨⟨_, rfl⟩, .inl ⟨_, rfl, SY hJ f na⟩⟩
   | some x =>
    have u2 := aEN ha
    rw [ha] at a
    simp only [QI, Qk] at a
    gi_wp2_with (first
     | (refine ⟨trivial, ?_⟩; gi_at_call 50; refine (callsIn_wide.2 a).mono ?_; rintro e w2 ⟨rfl, na⟩; have ga := EC na s)
     | (refine ⟨trivial, ?_⟩; gi_at_call 51; refine (callsIn_wide.2 (aLP _ x.1 q)).mono ?_; rintro e w3 ⟨rfl, ea⟩; rw [u2]))
    refine ⟨fun _ h => Xd, ?_⟩
    gi_wp2
    refine bodyPost_ret (results_none rfl _ _ _) rfl ?_
    rw [QZ] at f
    exact ⟨⟨_, rfl⟩, .inl ⟨_, rfl, SY hJ (SY hJ f na) ea⟩⟩
end Go.Vd
namespace Go.Vd
open Go.Proofs Go.RowKit
def aBG:=y2 f79 [] []
def Mo:=y3 f38 2 [] []
def aBS:=y2 f38 [] [(2,Mo)]
def PS:=y2 f11 [(5,[(2,0)]),(8,[(6,8)]),(9,[(1,0)]),(10,[(4,2)]),(11,[(3,2)])] []
def aBY:=y2 f17 [] []
def aBX:=y2 f18 [] []
def aBO:=y2 f46 [] []
def iL:=y2 f16 [] []
def aBV:=y2 f32 [] []
def Mj:=y3 f75 4 [] []
def aBJ:=y2 f75 [] [(4,Mj)]
def aBU:=y2 f33 [] []
def Mi:=y3 f76 4 [] []
def aBI:=y2 f76 [] [(4,Mi)]
def aBH:=y2 f77 [] []
def aBK:=y2 f71 [] []
def aBT:=y2 f36 [(4,[(1,0),(2,0),(3,0)]),(5,[(1,0),(3,0)]),(6,[(1,0)])] []
def UF:=y2 f34 [(6,[(1,2)])] []
def Mr:=y3 f10 3 [] []
def aB1:=y2 f10 [] [(3,Mr)]
def Ms:=y3 f8 4 [] []
def aB3:=y2 f8 [] [(4,Ms)]
def aB2:=y2 f9 [] []
attribute [local go_sem] Oper.semAt_some
def aUn:=Aq []
def aMa:=RF aUn aBG [.t 4] 12
def aNM:Kq aMa 79:=An (Aj func79) Ad
def aDt(k:Bs)(n:Nat)(s:k.length<=1000000)(g:n<=1000000):aMa [.str k,.int .i64 (n:Nat)]=some (.int .i64 ((36+k.length+min n 1048576:Nat):Int)):=by
 refine Al (Qa rfl) ?_;unfold aBG;have j:IntKind.i64.wrap (36+(k.length:Int))=((36+k.length:Nat):Int):=Xi
 have m:max (0:Int) (min (n:Int) 1048576)=((min n 1048576:Nat):Int):=O
 have f:IntKind.i64.wrap (((36+k.length:Nat):Int)+((min n 1048576:Nat):Int))=((36+k.length+min n 1048576:Nat):Int):=Xi
 simp only[GC,↓C2,Gy,simprocAttr,j,m,f]
 all_goals exact YR
open Go.Shelf
def aTN(y:World)(k:Bs)(n:Nat)(s:k.length<=1000000)(g:n<=1000000):Calls QA 79 #[encStr k,.int .i64 (n:Nat)] y λe i=>e= .returned (.int .i64 ((36+k.length+min n 1048576:Nat):Int))∧Below y.heap.size y i:=by
 refine(H5 aNM (aDt k n s g) rfl y).mono ?_;rintro e i ⟨u,a,rfl,m,w⟩;exact⟨X1,m⟩
abbrev P6(t:Tr)(q:Bs):={x:Bs×Bs // x∈Bw t q}
def ML(n:Nat)(g:1<=n)(Bt Bq n₀:Nat)(t:Tr)(q:Bs)(v:Value)(o:t.cnt<=400000)(w:World)(c:w.heap[Bt]?=some (.cells #[v] 36 (0,0)))(d:w.heap[Bq]?=some (.cells #[encStr q] 9 (0,0)))(j:Ed n₀ w t v)(ka:n₀<=w.heap.size):
  SeqStopsK Fence.wide n QA 48 #[.pointer (some ⟨Bt,0,none⟩),.pointer (some ⟨Bq,0,none⟩)] (λx:P6 t q=>#[encStr x.1.1,encStr x.1.2]) (dV n₀ Bt Bq) (λys=>ys.map (·.1)=Bw t q) (λr=>r.map (·.1)<+:Bw t q) (Bw t q).length w:=λl J Jx W b hJ y hY h0=>by
 refine(aEO n g l Bt Bq n₀ t q v o (λr W=>∃p:List (P6 t q),p.map (·.1)=r∧J p W) (λr W=>∃p:List (P6 t q),p.map (·.1)=r∧Jx p W) (B:=W.heap.size) (λs A B row i a hr=>?_) (λs A B row i a hr=>?_) (λr x W1 hj k=>?_) W ((b.block _ (Qr.1 c).1).trans c) ((b.block _ (Qr.1 d).1).trans d) (j.below (b.mono ka)) (Qe ka b.size) ⟨[],rfl,h0⟩).mono ?_
 ·obtain⟨p,e,h⟩:=i;exact⟨p,e,hJ p A B row h a hr⟩
 ·obtain⟨p,e,h⟩:=i;exact⟨p,e,y p A B row h a hr⟩
 ·obtain⟨p,rfl,h⟩:=hj;have m:x∈Bw t q:=k.subset (List.mem_append_right _ (Qn.2 rfl));have hl:p.length<(Bw t q).length:=by
   have:=k.length_le;simp only[Qd,Qu,Qb,Qf]at this;omega
  refine(hY p ⟨x,m⟩ W1 h hl).mono ?_;rintro e W' (⟨rfl,u,f⟩|⟨rfl,u⟩)
  ·exact .inl ⟨rfl,⟨_,U,u⟩,f⟩
  ·exact .inr ⟨rfl,_,U,u⟩
 ·rintro e W' ⟨z,⟨ys,rfl,p,u,f⟩|⟨r,h0,p,rfl,f⟩⟩
  ·exact⟨z,.inl ⟨p,u,f⟩⟩
  ·exact⟨z,.inr ⟨p,h0,f⟩⟩
def aCm(w:World)(v:Value)(q:Bs):Calls QA 21 #[.agg #[v],encStr q] w λe i=>e= .returned (.func (.func 48) #[] #[.pointer (some ⟨w.heap.size,0,none⟩),.pointer (some ⟨w.heap.size+1,0,none⟩)])∧i=(w.alloc (.cells #[v] 36 (0,0))).alloc (.cells #[encStr q] 9 (0,0)):=by
 go_enter func21,ntmps21
 go_wp2
 go_ret
 exact YV
def iV{α:Type}(B:Nat)(T:TypeId)(f:List α->Value):Own (λ(s:List α) W=>Boxed W B T (f s)):=λs A t row r q n=>r.kept q (λe=>by
 obtain⟨o,p,v⟩:=n _ e.symm;rw[show A.heap[B]?=_ from r]at p;cases p;cases v)
def Pb{α:Type}(m:Nat):Own (λ(_:List α) W=>m<=W.heap.size):=λs A t row r o n=>Qe r o.size
def aEH{n B Bt Bq:Nat}{w W k:World}{T:TypeId}{u:Value}(s:Value)(i:Below n w W)(m:Boxed W B T u)(b:Below W.heap.size W k)(g:n<=B)(q:Bt≠B)(y:Bq≠B)(p:Bt<W.heap.size)(r:Bq<W.heap.size)(j:n<=W.heap.size):
  KeepsOthers W (k.setCell ⟨B,0,none⟩ s)∧dV n Bt Bq W (k.setCell ⟨B,0,none⟩ s)∧Boxed (k.setCell ⟨B,0,none⟩ s) B T s∧Below n w (k.setCell ⟨B,0,none⟩ s)∧W.heap.size<=(k.setCell ⟨B,0,none⟩ s).heap.size:=by
 have c:Boxed k B T u:=(b.block _ m.lt).trans m;refine⟨(KeepsOthers.of_grownBy (B_ b (Qg _) none b.size) (λ_ _ e=>Xv)).trans (KeepsOthers.setCell _ _ _),⟨(b.mono j).setCell g _,?_,?_⟩,c.set _,(i.trans (b.mono j)).setCell g _,?_⟩
 ·rw[Below.heap_setCell _ _ _ _ q];exact b.block _ p
 ·rw[Below.heap_setCell _ _ _ _ y];exact b.block _ r
 ·have:=b.size;simpa[World.setCell]using this
def Vh:∀l:List (Bs×Bs),(∀x∈l,x.1.length<=100000∧x.2.length<=100000)->Tr.weighL l<=4+200036*l.length
 |[],_=>by simp[Tr.weighL]
 |x::l,h=>by
  have u:=h x Qy;have:=Vh l λy o=>h y (Qv _ o)
  rw[eA];simp only[Tr.costL,Qb];omega
def aP4(w:World)(v:Value)(t:Tr)(hT:Ed w.heap.size w t v)(o:t.cnt<=400000)(hk:∀x∈t.lst,x.1.length<=100000∧x.2.length<=100000):
  Calls QA 35 #[.agg #[v]] w λe w'=>e= .returned (.int .i64 ((Tr.weighL t.lst:Nat):Int))∧Below w.heap.size w w':=by
 refine(callsIn_wide (n:=3)).1 ?_;refine callsIn_of_wp_marks func35 rfl trivial ?_ rfl;simp only[ntmps35,QT,Qb,Qf,Qx,QJ,QN,QO,QU,QP,Qi,Qh]
 gi_wp2_with (refine⟨trivial,?_⟩;gi_at_call 21;refine(callsIn_wide.2 (aCm _ v [])).mono ?_;rintro e w' ⟨rfl,rfl⟩)
 have b:Below w.heap.size w ((((w.alloc (Obj.cells #[v] 36)).alloc (Obj.cells #[Value.int IntKind.i64 4] 3)).alloc (Obj.cells #[v] 36)).alloc (Obj.cells #[encStr []] 9)):=((((Below.refl _ w).alloc (Qg _) _).alloc U _).alloc Xc _).alloc Xc _;have j:((((w.alloc (Obj.cells #[v] 36)).alloc (Obj.cells #[Value.int IntKind.i64 4] 3)).alloc (Obj.cells #[v] 36)).alloc (Obj.cells #[encStr []] 9)).heap.size=w.heap.size+4:=U
 have b1:Boxed ((((w.alloc (Obj.cells #[v] 36)).alloc (Obj.cells #[Value.int IntKind.i64 4] 3)).alloc (Obj.cells #[v] 36)).alloc (Obj.cells #[encStr []] 9)) (w.heap.size+1) 3 (.int .i64 4):=by
  have:=((Boxed.new (w.alloc (Obj.cells #[v] 36)) 3 (.int .i64 4)).alloc (Obj.cells #[v] 36)).alloc (Obj.cells #[encStr []] 9)
  rwa [World.size_alloc]at this
 have b2:Boxed ((((w.alloc (Obj.cells #[v] 36)).alloc (Obj.cells #[Value.int IntKind.i64 4] 3)).alloc (Obj.cells #[v] 36)).alloc (Obj.cells #[encStr []] 9)) (w.heap.size+1+1) 36 v:=by
  have:=(Boxed.new ((w.alloc (Obj.cells #[v] 36)).alloc (Obj.cells #[Value.int IntKind.i64 4] 3)) 36 v).alloc (Obj.cells #[encStr []] 9)
  rwa [World.size_alloc,World.size_alloc]at this
 have b3:Boxed ((((w.alloc (Obj.cells #[v] 36)).alloc (Obj.cells #[Value.int IntKind.i64 4] 3)).alloc (Obj.cells #[v] 36)).alloc (Obj.cells #[encStr []] 9)) (w.heap.size+1+1+1) 9 (encStr []):=by
  have:=Boxed.new (((w.alloc (Obj.cells #[v] 36)).alloc (Obj.cells #[Value.int IntKind.i64 4] 3)).alloc (Obj.cells #[v] 36)) 9 (encStr [])
  rwa [World.size_alloc,World.size_alloc,World.size_alloc]at this
 generalize ((((w.alloc (Obj.cells #[v] 36)).alloc (Obj.cells #[Value.int IntKind.i64 4] 3)).alloc (Obj.cells #[v] 36)).alloc (Obj.cells #[encStr []] 9))=W0 at b j b1 b2 b3 ⊢;have ja:(Bw t []).length<=400000:=by rw[IC,Tr.cnt_lst];exact o
 refine wpIn_rangeFunc_ownF rfl V (gf:=48) (lb:=#[.pointer (some ⟨w.heap.size+1+1,0,none⟩),.pointer (some ⟨w.heap.size+1+1+1,0,none⟩)]) rfl trivial (enters_of func48 Xa rfl)
  (ML 2 V (w.heap.size+1+1) (w.heap.size+1+1+1) w.heap.size t [] v o W0 b2 b3 (hT.below b) O) dV.trans (aAa O O O) (Below.refl _ _) (λ_=>rfl)
  (λ(r:List (P6 t [])) W=>Boxed W (w.heap.size+1) 3 (.int .i64 ((Tr.weighL (r.map (·.1)):Nat):Int))∧Below w.heap.size w W∧w.heap.size+4<=W.heap.size)
  (λ_ _ _=>False)
  (OwnFrom.and (Own.from (iV _ _ _) _) (OwnFrom.and (ownFrom_below (Qg _) O) (Own.from (Pb _) _)))
  (λ_ _ _ _ _ hs _ _=>hs)
  ⟨b1,b,O⟩
  (λx=>{tmps:=#[Value.agg #[v],Value.pointer (some {block:=w.heap.size,off:=0}),Value.int IntKind.i64 0,Value.pointer (some {block:=w.heap.size+1,off:=0}),encStr x.1.1,encStr x.1.2,Value.agg #[v],Value.func (Fn.func 48) #[] #[Value.pointer (some {block:=w.heap.size+1+1,off:=0}),Value.pointer (some {block:=w.heap.size+1+1+1,off:=0})],encStr x.1.1,encStr x.1.2,undef,undef,undef,undef,undef,undef,undef],defers:=[]}) ?assign ?body ?done ?stop
 case assign=>
  intro l x W K hK
  gi_wp2
  exact hK
 case body=>
  rintro l r ⟨x,q⟩ W ⟨m,hB,ra⟩ k;have ab:=Vh (r.map (·.1)) (λy hy=>by
   obtain⟨z,_,rfl⟩:=QQ.1 hy;exact hk _ (IC t▸z.2))
  have g:Tr.weighL ((r++[(⟨x,q⟩:P6 t [])]).map (·.1))=Tr.weighL (r.map (·.1))+(36+x.1.length+min x.2.length 1048576):=by rw[QX];exact dZ x _
  have u:=m.cell;have p:=m.frozen;rw[IC]at q;have pa:=hk x q;have i:=λwx=>aTN wx x.1 x.2.length O O
  have hd:1<=3-1-1:=V
  have f:Tryz.prog.follows .mixedOrders=true:=Xa
  gi_wp2
  gi_region_with_o (refine⟨trivial,?_⟩;gi_at_call 79;refine(CallsIn.inRound l (callsIn_wide.2 (i _))).mono ?_;rintro e w3 ⟨rfl,s⟩;have fa:Boxed w3 (w.heap.size+1) 3 _:=(s.block _ m.lt).trans m;have a:=fa.cell;have d:=fa.frozen)
  all_goals
   obtain⟨g1,g2,g3,g4,g5⟩:=aEH (Bt:=w.heap.size+1+1) (Bq:=w.heap.size+1+1+1) (Value.int IntKind.i64 (IntKind.i64.wrap (((Tr.weighL (Zz (λx=>x.val) r):Nat):Int)+(36+(x.fst.length:Int)+((min x.snd.length 1048576:Nat):Int))))) hB m ⟨s.os,s.tape,s.output,s.size,s.block⟩ O O O O O O;refine⟨g1,g2,?_,g4,O⟩;have e:IntKind.i64.wrap (((Tr.weighL (Zz (λx=>x.val) r):Nat):Int)+(36+(x.fst.length:Int)+((min x.snd.length 1048576:Nat):Int)))=((Tr.weighL ((r++[(⟨x,by rw[IC];exact q⟩:P6 t [])]).map (·.1)):Nat):Int):=by
    rw[Qu]at ab;rw[g,GZ O O];omega
   rw[e]at g3 ⊢;exact g3
 case done=>
  rintro D ys W hD db ⟨m,hB,ra⟩ hK;have u:=m.cell
  gi_wp2
  refine⟨U,.inl ⟨_,_,rfl,run_takeDeferred hK,?_⟩⟩;exact⟨_,results_tmp rfl _ _ _,by rw[IC];rfl,hB.trans (belowK_b (w:=w) (Qg _) W D _ _ O hK rfl rfl)⟩
 case stop=>
  rintro D c r W _ _ h _;exact h.elim
attribute [local go_sem] Oper.semAt_some
open Go.Shelf Go.Sort
def aLQ{n:Nat}{s:World}{t:Tr}{v:Value}(h:Ed n s t v)(g:n<=s.heap.size)(q:Bs):Calls QA 27 #[.agg #[v],encStr q] s λe i=>e= .returned (.tuple #[encStr ((t.get q).getD []),.bool (t.get q).isSome])∧Below s.heap.size s i:=by
 have y:=h.one;obtain⟨G,f,x⟩:=h;refine(D6 (vs:=[.agg #[v],encStr q]) (G:=G) aAm (dF t q) Xk Xk rfl (λj d u p z=>?_) (λb m=>x b O)).mono ?_
 ·match j,p,z with
  |0,p,z=>cases p;cases z;exact P4 f y
  |1,p,z=>cases p;cases z;exact .str _
 ·rintro e i ⟨u,a,rfl,m,w⟩;obtain⟨us,rfl,r,z⟩:=w.tup_inv
  match us,r with
  |[u0,u1],_=>exact⟨by rw[(z 0 _ u0 rfl rfl).str_inv,(z 1 _ u1 rfl rfl).bool_inv],m⟩
def aCx(w:World)(i t b j:Obj):((((w.alloc i).alloc t).alloc b).alloc j).heap.size=w.heap.size+4∧((((w.alloc i).alloc t).alloc b).alloc j).heap[w.heap.size]?=some i∧((((w.alloc i).alloc t).alloc b).alloc j).heap[w.heap.size+1]?=some t∧((((w.alloc i).alloc t).alloc b).alloc j).heap[w.heap.size+1+1]?=some b∧((((w.alloc i).alloc t).alloc b).alloc j).heap[w.heap.size+1+1+1]?=some j:=by
 have u:∀(x:World)(o:Obj)(k:Nat),k<x.heap.size->(x.alloc o).heap[k]?=x.heap[k]?:=λx o k h=>Below.heap_alloc _ _ _ h
 have r:∀(x:World)(o:Obj),(x.alloc o).heap.size=x.heap.size+1:=λx o=>World.size_alloc x o
 have g:∀(x:World)(o:Obj),(x.alloc o).heap[x.heap.size]?=some o:=λx o=>World.alloc_heap_new x o
 refine⟨by simp only[r],?_,?_,?_,?_⟩
 ·rw[u _ _ _ Xt,u _ _ _ Xt,u _ _ _ Xt,g]
 ·rw[u _ _ _ Xt,u _ _ _ Xt,←r w i,g]
 ·rw[u _ _ _ Xt,←r w i,←r _ t,g]
 ·rw[←r w i,←r _ t,←r _ b,g]
def lE{w:World}{B i e r n:Nat}{v:Value}{xs:List Value}(h:w.ownsRow B e r v n xs)(m:i<=B):w.ownsRow i e r v n xs:=by
 refine⟨h.1,?_⟩;rcases h.2 with h|⟨g,cap,cur,f,u,y⟩
 ·exact .inl h
 ·exact .inr ⟨g,cap,cur,f,Qe m u,y⟩
abbrev G_(s:Option Addr×Nat×Nat):Value:= .slice s.1 s.2.1 s.2.2
def iZ(w:World)(i t b j:Obj):Below w.heap.size w ((((w.alloc i).alloc t).alloc b).alloc j):=((((Below.refl _ w).alloc (Qg _) _).alloc U _).alloc Xc _).alloc Xc _
def tF{W:World}{B:Nat}{T:TypeId}{a b c d e:Value}(h:W.heap[B]?=some (.cells #[a,b,c,d,e] T (0,0))):
  W.cell? ⟨B,0,none⟩=some a∧W.cell? ⟨B,1,none⟩=some b∧W.cell? ⟨B,2,none⟩=some c∧W.cell? ⟨B,3,none⟩=some d∧W.cell? ⟨B,4,none⟩=some e:=by
 simp[World.cell?,h]
def RB{W:World}{B:Nat}{T:TypeId}{cs:Array Value}(h:W.heap[B]?=some (.cells cs T (0,0)))(j:Nat):W.frozen? ⟨B,j,none⟩=false:=by
 simp[World.frozen?,h]
def R9{w:World}{b:Nat}{z0 z i x a:Value}(m j t v r:Value){T:TypeId}(h:w.heap[b]?=some (.cells #[z0,z,i,x,a] T (0,0))):
  (((((w.setCell ⟨b,0,none⟩ m).setCell ⟨b,1,none⟩ j).setCell ⟨b,2,none⟩ t).setCell ⟨b,3,none⟩ v).setCell ⟨b,4,none⟩ r).heap[b]?=some (.cells #[m,j,t,v,r] T (0,0))∧
  (((((w.setCell ⟨b,0,none⟩ m).setCell ⟨b,1,none⟩ j).setCell ⟨b,2,none⟩ t).setCell ⟨b,3,none⟩ v).setCell ⟨b,4,none⟩ r).heap.size=w.heap.size∧
  ∀k,k≠b->(((((w.setCell ⟨b,0,none⟩ m).setCell ⟨b,1,none⟩ j).setCell ⟨b,2,none⟩ t).setCell ⟨b,3,none⟩ v).setCell ⟨b,4,none⟩ r).heap[k]?=w.heap[k]?:=by
 refine⟨?_,by simp[World.setCell],λk s=>?_⟩
 ·have u:=heap_setCell_same w b 0 _ _ m h;have y:=heap_setCell_same _ b 1 _ _ j u;have p:=heap_setCell_same _ b 2 _ _ t y;have n:=heap_setCell_same _ b 3 _ _ v p;have c:=heap_setCell_same _ b 4 _ _ r n;simpa using c
 ·rw[Below.heap_setCell _ _ _ _ s,Below.heap_setCell _ _ _ _ s,Below.heap_setCell _ _ _ _ s,Below.heap_setCell _ _ _ _ s,Below.heap_setCell _ _ _ _ s]
def aMx(w:World)(k0 k1 x k3 k4:Value)(q:Bs)(x2 x3 x4 x5 x6 x7 x8:Value)(v:Value)(tx:Bs)(th:Bool)(QK:World->World->Value->Prop)
  (r:∀y,Below w.heap.size w y->Calls QA 27 #[.agg #[v],encStr q] y λe i=>e= .returned (.tuple #[encStr tx,.bool th])∧Below y.heap.size y i)
  (f:∀y,Below w.heap.size w y->w.heap.size+4<=y.heap.size->Calls QA 155 #[.agg #[k0,k1,x,k3,k4],encStr q,encStr tx,.bool th] y λe i=>∃u0 u1 u2 u3 u4,e= .returned (.agg #[G_ u0,G_ u1,G_ u2,G_ u3,G_ u4])∧Below y.heap.size y i∧QK y i (.agg #[G_ u0,G_ u1,G_ u2,G_ u3,G_ u4])):
  Calls QA 88 #[.agg #[k0,k1,x,k3,k4],.agg #[encStr q,.bool false,x2,x3,x4,x5,x6,x7,x8],.agg #[v]] w λe i=>∃u y t B,e= .returned u∧Below w.heap.size w y∧Below y.heap.size y t∧QK y t u∧B=w.heap.size+3∧Below w.heap.size w i∧t.heap.size<=i.heap.size∧∀p:Addr,p.block≠B->i.cell? p=t.cell? p:=by
 go_enter func88,ntmps88
 go_wp2_with (first|(go_at_call 27;refine(r _ (iZ _ _ _ _ _)).mono ?_;rintro e y ⟨rfl,c⟩;obtain⟨zz,y0,y1,y2,y3⟩:=aCx w (Obj.cells #[k0,k1,x,k3,k4] 163) (Obj.cells #[encStr q,Value.bool false,x2,x3,x4,x5,x6,x7,x8] 100) (Obj.cells #[v] 36) (Obj.cells #[Value.slice none 0 0,Value.slice none 0 0,Value.slice none 0 0,Value.slice none 0 0,Value.slice none 0 0] 163);have k:=(iZ w (Obj.cells #[k0,k1,x,k3,k4] 163) (Obj.cells #[encStr q,Value.bool false,x2,x3,x4,x5,x6,x7,x8] 100) (Obj.cells #[v] 36) (Obj.cells #[Value.slice none 0 0,Value.slice none 0 0,Value.slice none 0 0,Value.slice none 0 0,Value.slice none 0 0] 163)).trans (c.mono O);have q0:=(c.block _ O).trans y0;have q1:=(c.block _ O).trans y1;have q3:=(c.block _ O).trans y3;obtain⟨d0,o,d2,d3,d4⟩:=tF q0;have d5:y.cell? ⟨w.heap.size+1,0,none⟩=some (encStr q):=by simp[World.cell?,q1])|(go_at_call 155;refine(f _ k (by have:=c.size;omega)).mono ?_;rintro e t ⟨u0,u1,u2,u3,u4,rfl,z,m⟩;have q4:=(z.block _ (by have:=c.size;omega)).trans q3;obtain⟨c0,c1,n,b,c4⟩:=tF q4;have f0:=RB q4 0;have f1:=RB q4 1;have f2:=RB q4 2;have f3:=RB q4 3;have f4:=RB q4 4))
 obtain⟨p5,ps,pk⟩:=R9 (G_ u0) (G_ u1) (G_ u2) (G_ u3) (G_ u4) q4;obtain⟨s0,s1,j,s3,s4⟩:=tF p5;have a:=c.size;have s:Below w.heap.size w t:=k.trans (z.mono k.size);refine bodyPost_ret (v:= .agg #[G_ u0,G_ u1,G_ u2,G_ u3,G_ u4]) (by simp[results,results88,go_sem,s0,s1,j,s3,s4]) rfl ⟨_,y,t,w.heap.size+1+1+1,rfl,k,z,m,rfl,?_,Zb ps.symm,λp g=>by simp only[World.cell?,pk _ g]⟩;exact((((s.setCell Xc _).setCell Xc _).setCell Xc _).setCell Xc _).setCell Xc _
def zH{n N Bt Bq B:Nat}{w W t:World}{v v':Value}{k m:Nat}{xs ys:List Value}{c:Obj}(hB:Below n w W)(f:Boxed W B 23 v)(x:W.ownsRow N 9 1 v k xs)(s:N<=W.heap.size)(d:n<=N)(sa:n<=B)(q:Bt≠B)(y:Bq≠B)(p:Bt<N)(r:Bq<N)
  (ea:t.ownsRow N 9 1 v' m ys) (z:(W.alloc c).grownBy t v.ownBlock):
  KeepsOthers W (t.setCell ⟨B,0,none⟩ v')∧dV n Bt Bq W (t.setCell ⟨B,0,none⟩ v')∧Boxed (t.setCell ⟨B,0,none⟩ v') B 23 v'∧(t.setCell ⟨B,0,none⟩ v').ownsRow N 9 1 v' m ys∧Below n w (t.setCell ⟨B,0,none⟩ v')∧N<=(t.setCell ⟨B,0,none⟩ v').heap.size∧Boxed t B 23 v:=by
 have hr:∀g,v.ownBlock=some g->N<=g:=λg hg=>by
  rcases x.2 with ⟨rfl,_⟩|⟨g',cap,cur,rfl,h,_⟩
  ·cases hg
  ·cases hg;exact h
 have le:∀{u:Value} {W:World} {j:Nat} {zs:List Value},W.ownsRow N 9 1 u j zs->W.ownsRow n 9 1 u j zs:=λh=>lE h O
 obtain⟨g1,g2,g3,g4,g5⟩:=f.appended V (le x) O sa (le ea) z;have a:∀b,b<N->b≠B->(t.setCell ⟨B,0,none⟩ v').heap[b]?=W.heap[b]?:=λb wa i=>by
  rw[Below.heap_setCell _ _ _ _ i];exact(z.block b (by rw[World.size_alloc];omega) (λe=>by have:=hr b e.symm;omega)).trans (Below.heap_alloc _ _ _ O)
 have o:N<=(t.setCell ⟨B,0,none⟩ v').heap.size:=by
  have:=z.size;rw[World.size_alloc]at this;simp only[World.setCell,Array.size_modify];omega
 exact⟨g4,⟨g5,a Bt p q,a Bq r y⟩,g2,ea.kept (grownBy_setCell' t B v') (.inr (g1.not_row V ea).symm),hB.trans g5,o,g1⟩
def Ed.more{n m:Nat}{w:World}{t:Tr}{v:Value}(h:Ed n w t v)(a:n<=m):Ed m w t v:=by
 obtain⟨G,u,y⟩:=h;exact⟨G,u,λb f=>y b O⟩
def kH(t:Tr)(q:Bs):(Bw t q).length<=t.lst.length:=Qe ((List.takeWhile_prefix _).length_le) X4
def aMw(w:World)(k0 k1 k2 k3 k4:Value)(q:Bs)(x2 x3 x4 x5 x6 x7 x8:Value)(v:Value)(t:Tr)(QK:World->World->Value->Prop)(hT:Ed w.heap.size w t v)(hc:t.cnt<=400000)
  (f:∀(wx:World)(vs:Value),Below w.heap.size w wx->w.heap.size+4<=wx.heap.size->wx.ownsRow (w.heap.size+7) 9 1 vs ((Bw t q).map (·.1)).length (((Bw t q).map (·.1)).map encStr)->(vs= .slice none 0 0↔(Bw t q).map (·.1)=[])->Calls QA 156 #[.agg #[k0,k1,k2,k3,k4],encStr q,vs] wx λe w'=>∃u0 u1 u2 u3 u4,e= .returned (.agg #[G_ u0,G_ u1,G_ u2,G_ u3,G_ u4])∧Below wx.heap.size wx w'∧QK wx w' (.agg #[G_ u0,G_ u1,G_ u2,G_ u3,G_ u4])):
  Calls QA 88 #[.agg #[k0,k1,k2,k3,k4],.agg #[encStr q,.bool true,x2,x3,x4,x5,x6,x7,x8],.agg #[v]] w λe w'=>∃u wx w1 B,e= .returned u∧Below w.heap.size w wx∧Below wx.heap.size wx w1∧QK wx w1 u∧B=w.heap.size+3∧Below w.heap.size w w'∧w1.heap.size<=w'.heap.size∧∀p:Addr,p.block≠B->w'.cell? p=w1.cell? p:=by
 obtain⟨i0,hi,hx⟩:=QY.1 gI;simp only[Prod.mk.injEq]at hx;obtain⟨ia,xa,ya⟩:=hx;refine(callsIn_wide (n:=3)).1 ?_;refine callsIn_of_wp_marks func88 rfl trivial ?_ rfl;simp only[ntmps88,QT,Qb,Qf,Qx,QJ,QN,QO,QU,QP,Qi,Qh]
 gi_wp2_with (refine⟨trivial,?_⟩;gi_at_call 21;refine(callsIn_wide.2 (aCm _ v q)).mono ?_;rintro e w' ⟨rfl,rfl⟩)
 have j:=aCx w (Obj.cells #[k0,k1,k2,k3,k4] 163) (Obj.cells #[encStr q,Value.bool true,x2,x3,x4,x5,x6,x7,x8] 100) (Obj.cells #[v] 36) (Obj.cells #[Value.slice none 0 0,Value.slice none 0 0,Value.slice none 0 0,Value.slice none 0 0,Value.slice none 0 0] 163);have fa:=iZ w (Obj.cells #[k0,k1,k2,k3,k4] 163) (Obj.cells #[encStr q,Value.bool true,x2,x3,x4,x5,x6,x7,x8] 100) (Obj.cells #[v] 36) (Obj.cells #[Value.slice none 0 0,Value.slice none 0 0,Value.slice none 0 0,Value.slice none 0 0,Value.slice none 0 0] 163);generalize ((((w.alloc (Obj.cells #[k0,k1,k2,k3,k4] 163)).alloc (Obj.cells #[encStr q,Value.bool true,x2,x3,x4,x5,x6,x7,x8] 100)).alloc (Obj.cells #[v] 36)).alloc (Obj.cells #[Value.slice none 0 0,Value.slice none 0 0,Value.slice none 0 0,Value.slice none 0 0,Value.slice none 0 0] 163))=w4 at j fa ⊢;obtain⟨zz,y0,y1,y2,y3⟩:=j;have ma:Ed w4.heap.size w4 t v:=(hT.below fa).more O;have b:Below w4.heap.size w4 (((w4.alloc (Obj.cells #[Value.slice none 0 0] 23)).alloc (Obj.cells #[v] 36)).alloc (Obj.cells #[encStr q] 9)):=(((Below.refl _ w4).alloc (Qg _) _).alloc U _).alloc Xc _;have hz:(((w4.alloc (Obj.cells #[Value.slice none 0 0] 23)).alloc (Obj.cells #[v] 36)).alloc (Obj.cells #[encStr q] 9)).heap.size=w4.heap.size+3:=U
 have b1:Boxed (((w4.alloc (Obj.cells #[Value.slice none 0 0] 23)).alloc (Obj.cells #[v] 36)).alloc (Obj.cells #[encStr q] 9)) w4.heap.size 23 (.slice none 0 0):=((Boxed.new w4 23 (.slice none 0 0)).alloc (Obj.cells #[v] 36)).alloc (Obj.cells #[encStr q] 9);have b2:Boxed (((w4.alloc (Obj.cells #[Value.slice none 0 0] 23)).alloc (Obj.cells #[v] 36)).alloc (Obj.cells #[encStr q] 9)) (w4.heap.size+1) 36 v:=by
  have:=(Boxed.new (w4.alloc (Obj.cells #[Value.slice none 0 0] 23)) 36 v).alloc (Obj.cells #[encStr q] 9)
  rwa [World.size_alloc]at this
 have b3:Boxed (((w4.alloc (Obj.cells #[Value.slice none 0 0] 23)).alloc (Obj.cells #[v] 36)).alloc (Obj.cells #[encStr q] 9)) (w4.heap.size+1+1) 9 (encStr q):=by
  have:=Boxed.new ((w4.alloc (Obj.cells #[Value.slice none 0 0] 23)).alloc (Obj.cells #[v] 36)) 9 (encStr q)
  rwa [World.size_alloc,World.size_alloc]at this
 generalize (((w4.alloc (Obj.cells #[Value.slice none 0 0] 23)).alloc (Obj.cells #[v] 36)).alloc (Obj.cells #[encStr q] 9))=W0 at b hz b1 b2 b3 ⊢;have en:w.heap.size+1+1+1+1=w4.heap.size:=O
 rw[en];have ja:(Bw t q).length<=400000:=Qe (kH t q) (by rw[Tr.cnt_lst];exact hc);refine wpIn_rangeFunc_ownF rfl V (gf:=48) (lb:=#[.pointer (some ⟨w4.heap.size+1,0,none⟩),.pointer (some ⟨w4.heap.size+1+1,0,none⟩)]) rfl trivial (enters_of func48 Xa rfl)
  (ML 2 V (w4.heap.size+1) (w4.heap.size+1+1) w4.heap.size t q v hc W0 b2 b3 (ma.below b) O) dV.trans (aAa O O O) (Below.refl _ _) (λ_=>rfl)
  (λ(ba:List (P6 t q)) W=>(∃u,Boxed W w4.heap.size 23 u∧W.ownsRow (w4.heap.size+3) 9 1 u ba.length ((ba.map (·.1.1)).map encStr)∧(u= .slice none 0 0↔ba=[]))∧Below w4.heap.size w4 W∧w4.heap.size+3<=W.heap.size)
  (λ_ _ _=>False)
  (OwnFrom.and (Own.from (holdsRow_own (w4.heap.size+3) w4.heap.size 23 9 1 (λ(ba:List (P6 t q))=>ba.length) (λ(ba:List (P6 t q))=>(ba.map (·.1.1)).map encStr) (λ(ba:List (P6 t q)) u=>u= .slice none 0 0↔ba=[])) _) (OwnFrom.and (ownFrom_below (Qg _) O) (Own.from (Pb _) _)))
  (λ_ _ _ _ _ hs _ _=>hs)
  ⟨⟨_,b1,World.ownsRow_nil _ _ _ _,U⟩,b,O⟩
  (λx=>{tmps:=Zc (Value.agg #[k0,k1,k2,k3,k4]::Value.agg #[encStr q,Value.bool true,x2,x3,x4,x5,x6,x7,x8]::Value.agg #[v]::Value.pointer (some {block:=w.heap.size,off:=0})::Value.pointer (some {block:=w.heap.size+1,off:=0})::Value.pointer (some {block:=w.heap.size+1+1,off:=0})::Value.pointer (some {block:=w.heap.size+1+1+1,off:=0})::undef::undef::Value.pointer (some {block:=w4.heap.size,off:=0})::encStr x.1.1::Value.pointer (some {block:=w.heap.size+1,off:=1})::Value.bool true::Value.bool false::undef::undef::undef::undef::undef::undef::undef::undef::undef::undef::undef::undef::undef::Value.agg #[v]::Value.pointer (some {block:=w.heap.size+1,off:=0})::encStr q::Value.func (Fn.func 48) #[] #[Value.pointer (some {block:=w4.heap.size+1,off:=0}),Value.pointer (some {block:=w4.heap.size+1+1,off:=0})]::encStr x.1.1::encStr x.1.2::undef::undef::undef::undef::undef::undef::undef::undef::undef::[]),defers:=[]}) ?assign ?body ?done ?stop
 case assign=>
  intro l x W K hK;clear zz en hz
  gi_wp2
  exact hK
 case body=>
  rintro l ba x W ⟨⟨u,hv,ca,na⟩,hB,ra⟩ da;have ga:=hv.cell;clear zz en hz
  gi_wp2_with (gi_at_builtin;refine wpListIn_append_own _ rfl _ _ 23 rfl (w4.heap.size+3) 9 i0 (.string ByteArray.empty) 1 16 underlying23 hi ia xa ya rfl V _ _ _ rfl (ca.alloc _) ⟨W.heap.size,0,none⟩ 1 1 [encStr x.1.1] rfl rfl (cell_one_new _ _ _) (λx hx=>by simp at hx;subst hx;rfl) Xq O Xc ?_;intro v' w1 ea aa i;obtain⟨g',m,rfl⟩:=ownsRow_succ ea;obtain⟨h1,h2,h3,h4,h5,h6,h7⟩:=zH (n:=w4.heap.size) (N:=w4.heap.size+3) (Bt:=w4.heap.size+1) (Bq:=w4.heap.size+1+1) (B:=w4.heap.size) hB hv ca ra O (Qg _) O O O O ea aa;have y:=h7.cell;have ka:=h7.frozen)
  exact⟨h1,h2,⟨_,h3,by simpa using h4,U⟩,h5,h6⟩
 case done=>
  rintro D ys W hD db ⟨⟨u,hv,ca,na⟩,hB,ra⟩ hK;have ga:=hv.cell;have q0:=(hB.block _ O).trans y0;have q1:=(hB.block _ O).trans y1;have q3:=(hB.block _ O).trans y3;obtain⟨d0,d1,d2,d3,d4⟩:=tF q0;have d5:W.cell? ⟨w.heap.size+1,0,none⟩=some (encStr q):=by simp[World.cell?,q1]
  have ZZ:Aside (w4.heap.size=w.heap.size+4∧W0.heap.size=w4.heap.size+3):=⟨zz,hz⟩;clear zz en hz;have r:ys.map (·.1.1)=(Bw t q).map (·.1):=by have:=congrArg (Zz (·.1)) db;rwa [Zp]at this
  have a:ys=[]↔(Bw t q).map (·.1)=[]:=by rw[←r,Zi]
  have ha:ys.length=((Bw t q).map (·.1)).length:=by rw[←r,Qu]
  rw[r,ha]at ca;rw[a]at na;have k:Below w.heap.size w W:=fa.trans (hB.mono fa.size);have g:=lE ca (show w.heap.size+7<=w4.heap.size+3 by have:=ZZ.out;omega);clear r a ha
  gi_wp2_with (refine⟨trivial,?_⟩;gi_at_call 156;refine(callsIn_wide.2 (f W u k (by have:=ZZ.out;omega) g na)).mono ?_;rintro e w1 ⟨u0,u1,u2,u3,u4,rfl,la,hq⟩;have q4:=(la.block _ (by have:=ZZ.out;omega)).trans q3;obtain⟨c0,c1,c2,c3,c4⟩:=tF q4;have f0:=RB q4 0;have f1:=RB q4 1;have f2:=RB q4 2;have f3:=RB q4 3;have f4:=RB q4 4)
  obtain⟨p5,ps,pk⟩:=R9 (G_ u0) (G_ u1) (G_ u2) (G_ u3) (G_ u4) q4;have z:=(Qr.1 hK).1;obtain⟨zz,hz⟩:=ZZ.out;have s:D≠w.heap.size+1+1+1:=O
  have d:=(pk D s).trans ((la.block _ z).trans hK);have ta:=la.size;have sa:Below w.heap.size w w1:=k.trans (la.mono k.size);have oa:=((((sa.setCell (p:=⟨w.heap.size+1+1+1,0,none⟩) Xc (G_ u0)).setCell (p:=⟨w.heap.size+1+1+1,1,none⟩) Xc (G_ u1)).setCell (p:=⟨w.heap.size+1+1+1,2,none⟩) Xc (G_ u2)).setCell (p:=⟨w.heap.size+1+1+1,3,none⟩) Xc (G_ u3)).setCell (p:=⟨w.heap.size+1+1+1,4,none⟩) Xc (G_ u4);have pa:∀o,((((((w1.setCell ⟨w.heap.size+1+1+1,0,none⟩ (G_ u0)).setCell ⟨w.heap.size+1+1+1,1,none⟩ (G_ u1)).setCell ⟨w.heap.size+1+1+1,2,none⟩ (G_ u2)).setCell ⟨w.heap.size+1+1+1,3,none⟩ (G_ u3)).setCell ⟨w.heap.size+1+1+1,4,none⟩ (G_ u4)).putObj D o).heap[w.heap.size+1+1+1]?=_:=λo=>(World.putObj_heap_other s.symm).trans p5
  refine⟨U,.inl ⟨_,_,rfl,run_takeDeferred d,?_⟩⟩;obtain⟨s0,s1,s2,s3,s4⟩:=tF (pa (.deferred none));refine⟨.agg #[G_ u0,G_ u1,G_ u2,G_ u3,G_ u4],by simp[results,results88,go_sem,s0,s1,s2,s3,s4],_,W,w1,w.heap.size+1+1+1,rfl,k,la,hq,rfl,oa.trans (belowK_b (w:=w) (Qg _) _ D _ _ O d rfl rfl),?_,λp hp=>?_⟩
  ·rw[World.putObj_size];exact Zb ps.symm
  ·rcases Nat.decEq p.block D with h|h
   ·simp only[World.cell?,World.putObj_heap_other h];rw[pk _ hp]
   ·simp only[World.cell?,h,World.putObj_heap_same (Qr.1 d).1,(la.block _ z).trans hK]
 case stop=>
  rintro D c ba W _ _ h _;exact h.elim
def Sn{P:Program}{f:FuncId}{F:List D->Option D}(y:(Ac F).ok P f){ds:List D}{r:D}(g:F ds=some r)(z:ds.all D.calm=true)(ba:ds.map D.un=ds)(q:r.calm=true){vs:List Value}{w:World}{G:Nat->Nat}
  (hl:vs.length=ds.length) (ea:∀(j:Nat) d v,ds[j]?=some d->vs[j]?=some v->Rep w (Gh.base G) d v) (n:∀b,w.heap.size<=b->G b=0):
  Calls P f vs.toArray w λe c=>∃v G',e= .returned v∧Below w.heap.size w c∧(∀b,c.heap.size<=b->G' b=0)∧(∀b,b<w.heap.size->G' b=G b)∧Rep c (Gh.base G') r v:=by
 have t:GJ P w.heap.size w (λ_ _=>none) w (Gh.base G):=
  ⟨Below.refl _ _,Qg _,n,λ_ _=>rfl,λi b h=>XS,λi i' b h=>XS,λi o d h=>Xe,λi e h=>Xe,λi i' e e' b x x' h=>Xe,λi s p h=>Xe,λi i' s p s' p' b x x' h=>Xe⟩
 refine(y.run (fr:=[0]) (ds:=ds) (r:=r) (u:=[]) t (λi _=>⟨λ_=>rfl,rfl,rfl⟩) hl ea ?_).mono ?_
 ·grind [Ac]
 ·rintro e c ⟨v,a,rfl,k⟩;refine⟨v,a.G,rfl,k.inv.below,k.inv.gz,λb m=>?_,k.rep.calm_to q (λ_ _=>rfl) (λ_=>Qg _)⟩;rw[k.inv.old b m,k.ext.G0];rfl
def Tg{w:World}{g:Gh}{t:Tr}{u:Value}(h:Rep w g (.agg [GK t]) u):∃v,u= .agg #[v]∧Rep w g (GK t) v:=by
 cases h with
 |agg ds vs hl q y=>
  match vs,hl with
  |[v],_=>exact⟨v,rfl,y 0 _ v rfl rfl⟩
def Pk(t:Tr):List D:=[.agg [GK t]]
def fN(x y)(h:Pk x=Pk y):x=y:=by
 simp only[Pk,Q1,D.agg.injEq,and_true]at h;exact E5 h
structure TrS (t:Tr):Prop where
 cnt:t.cnt<=400000
 key:∀x∈t.lst,x.1.length<=100000∧x.2.length<=100000
def S8:List D->Option D:=FX Pk TrS λt=> .int .i64 ((Tr.weighL t.lst:Nat):Int)
def Iz{t:Tr}(h:TrS t):S8 [.agg [GK t]]=some (.int .i64 ((Tr.weighL t.lst:Nat):Int)):=BV (mk:=Pk) fN h
def TR:Kq S8 35:=by
 refine Ia ⟨_,func35,Xa,Xa⟩ λds r g vs w G hl n x=>⟨?_,?_⟩
 ·obtain⟨p,_,_,rfl⟩:=Dc g;rfl
 ·obtain⟨t,j,rfl,rfl⟩:=Dc g
  match vs,hl with
  |[v0],_=>
   obtain⟨v,rfl,c⟩:=Tg (n 0 _ v0 rfl rfl);refine(aP4 w v t ⟨G,c,x⟩ j.cnt j.key).mono ?_;rintro e i ⟨rfl,m⟩;exact⟨_,G,rfl,m,λb h=>x b (Qe m.size h),λ_ _=>rfl,.int _ _⟩
def Pi(p:Kn×Bs×Bool×List D×Tr):List D:=[.agg (Ha p.1),.agg (.str p.2.1:: .bool p.2.2.1::p.2.2.2.1),.agg [GK p.2.2.2.2]]
def fM(x y)(h:Pi x=Pi y):x=y:=by
 obtain⟨k,q,li,r,t⟩:=x;obtain⟨s,j,d,w,z⟩:=y;simp only[Pi,Q1,D.agg.injEq,D.str.injEq,D.bool.injEq,and_true]at h;obtain⟨u,⟨f,p,n⟩,c⟩:=h;rw[lS u,f,p,n,E5 c]
structure aUx (p:Kn×Bs×Bool×List D×Tr):Prop where
 es:p.1.es.length<=1000
 ls:p.1.ls.length<=1000
 r:p.2.2.2.1.length=7
 t:TrS p.2.2.2.2
 und:((Bw p.2.2.2.2 p.2.1)).length<=100000
def S7:List D->Option D:=FX Pi aUx λp=> .agg (Ha (A3 p.1 p.2.1 p.2.2.1 (Fs p.2.2.2.2 p.2.1)))
def aD5{k:Kn}{q:Bs}{li:Bool}{r:List D}{t:Tr}(h:aUx (k,q,li,r,t)):S7 [.agg (Ha k),.agg (.str q:: .bool li::r),.agg [GK t]]=some (.agg (Ha (A3 k q li (Fs t q)))):=BV (mk:=Pi) (a:=(k,q,li,r,t)) fM h
def zZ(k:Kn):(D.agg (Ha k)).calm=true:=rfl
def fU{w:World}{g:Gh}{k:Kn}{u:Value}(h:Rep w g (.agg (Ha k)) u):∃m j i v r,u= .agg #[G_ m,G_ j,G_ i,G_ v,G_ r]:=by
 cases h with
 |agg ds vs hl q y=>
  match vs,hl with
  |[v0,v1,v2,v3,v4],_=>
   obtain⟨b,e,rfl,_⟩:=(y 0 _ v0 rfl rfl).len_slice;obtain⟨a1,c1,rfl,_⟩:=(y 1 _ v1 rfl rfl).len_slice;obtain⟨t,p,rfl,_⟩:=(y 2 _ v2 rfl rfl).len_slice;obtain⟨z,o,rfl,_⟩:=(y 3 _ v3 rfl rfl).len_slice;obtain⟨n,x,rfl,_⟩:=(y 4 _ v4 rfl rfl).len_slice;exact⟨(b,_,e),(a1,_,c1),(t,_,p),(z,_,o),(n,_,x),rfl⟩
def aNe{w:World}{g:Gh}{q:Bs}{li:Bool}{r:List D}{u:Value}(h:Rep w g (.agg (.str q:: .bool li::r)) u)(n:r.length=7):∃z i m e v c s,u= .agg #[encStr q,.bool li,z,i,m,e,v,c,s]:=by
 cases h with
 |agg ds vs hl y f=>
  match r,n,vs,hl,f with
  |[r2,r3,r4,r5,r6,r7,r8],_,[v0,v1,v2,v3,v4,v5,v6,v7,v8],_,f=>
   have a:=(f 0 _ v0 rfl rfl).str_inv;have j:=(f 1 _ v1 rfl rfl).bool_inv;subst a j;exact⟨_,_,_,_,_,_,_,rfl⟩
def aPF(w:World)(G:Nat->Nat)(k:Kn)(t:World)(u:Value):Prop:=∃i:Nat->Nat,(∀b,t.heap.size<=b->i b=0)∧(∀b,b<w.heap.size->i b=G b)∧i (w.heap.size+3)=0∧Rep t (Gh.base i) (.agg (Ha k)) u
def lQ{w:World}{G:Nat->Nat}{k:Kn}{e:Ending}{i:World}(h:∃u s t B,e= .returned u∧Below w.heap.size w s∧Below s.heap.size s t∧aPF w G k t u∧B=w.heap.size+3∧Below w.heap.size w i∧t.heap.size<=i.heap.size∧∀p:Addr,p.block≠B->i.cell? p=t.cell? p):
  ∃v G',e= .returned v∧Below w.heap.size w i∧(∀b,i.heap.size<=b->G' b=0)∧(∀b,b<w.heap.size->G' b=G b)∧Rep i (Gh.base G') (.agg (Ha k)) v:=by
 obtain⟨u,s,t,B,rfl,c,q,⟨y,z,o,x,n⟩,rfl,m,r,j⟩:=h;refine⟨u,y,rfl,m,λb h=>z b O,o,n.calm_to (zZ k) (λp g=>j p λe=>?_) (λ_=>Qg _)⟩;rw[e]at g;simp only[Gh.base,x]at g;omega
def aF3(k:Kn)(q:Bs)(t:Tr):A3 k q false (Fs t q)={k with es:=k.es++[(q,(t.get q).getD [],(t.get q).isSome)]}:=by
 simp[A3,Fs]
def aF1(k:Kn)(q:Bs)(t:Tr):A3 k q true (Fs t q)={k with ls:=k.ls++[(q,(Bw t q).isEmpty,(Bw t q).map (·.1))]}:=by
 simp[A3,Fs]
def aNc:Kq S7 88:=by
 refine Ia ⟨_,func88,Xa,Xa⟩ λds r hF vs w G hl n x=>⟨?_,?_⟩
 ·obtain⟨p,_,_,rfl⟩:=Dc hF;rfl
 ·obtain⟨⟨k,q,li,rr,t⟩,⟨i,ja,c,ht,ba⟩,rfl,rfl⟩:=Dc hF;simp only at i ja c ht ba
  match vs,hl with
  |[v0,v1,v2],_=>
   have ua:=n 0 _ v0 rfl rfl;obtain⟨u0,u1,u2,u3,u4,rfl⟩:=fU ua;obtain⟨x2,x3,x4,x5,x6,x7,x8,rfl⟩:=aNe (n 1 _ v1 rfl rfl) c;obtain⟨v,rfl,hr⟩:=Tg (n 2 _ v2 rfl rfl);have hT:Ed w.heap.size w t v:=⟨G,hr,x⟩;cases li with
   |false=>
    refine(aMx w (G_ u0) (G_ u1) (G_ u2) (G_ u3) (G_ u4) q x2 x3 x4 x5 x6 x7 x8 v ((t.get q).getD []) (t.get q).isSome (λ_=>aPF w G (A3 k q false (Fs t q))) (λwx m=>aLQ (hT.below m) m.size q) (λwx m ka=>?_)).mono λe w' h=>lQ h
    refine(Sn (vs:=[.agg #[G_ u0,G_ u1,G_ u2,G_ u3,G_ u4],encStr q,encStr ((t.get q).getD []),.bool (t.get q).isSome]) (G:=G) aVy (aPE k q ((t.get q).getD []) (t.get q).isSome i) rfl rfl rfl rfl (λj d u hd hu=>?_) (λb h=>x b (Qe m.size h))).mono ?_
    ·match j,hd,hu with
     |0,hd,hu=>cases hd;cases hu;exact FK ua rfl x m (λ_ _=>Qg _)
     |1,hd,hu=>cases hd;cases hu;exact .str _
     |2,hd,hu=>cases hd;cases hu;exact .str _
     |3,hd,hu=>cases hd;cases hu;exact .bool _
    ·rintro e w1 ⟨u,G1,rfl,la,hz,ho,hR⟩;obtain⟨y0,y1,y2,y3,y4,rfl⟩:=fU hR;refine⟨y0,y1,y2,y3,y4,rfl,la,G1,hz,λb h=>ho b (Zn h m.size),?_,by rw[aF3];exact hR⟩;rw[ho _ O,x _ O]
   |true=>
    refine(aMw w (G_ u0) (G_ u1) (G_ u2) (G_ u3) (G_ u4) q x2 x3 x4 x5 x6 x7 x8 v t (λ_=>aPF w G (A3 k q true (Fs t q))) hT ht.cnt (λwx vs m ka s na=>?_)).mono λe w' h=>lQ h
    have y:∃Gx:Nat->Nat,(∀b,wx.heap.size<=b->Gx b=0)∧(∀b,b<w.heap.size->Gx b=G b)∧Gx (w.heap.size+3)=0∧Rep wx (Gh.base Gx) (.slice (Bw t q).isEmpty [] (strsD ((Bw t q).map (·.1)))) vs:=by
     rcases s.2 with ⟨rfl,_⟩|⟨g,cap,cur,rfl,o,a,f⟩
     ·have e:=na.1 rfl;have e2:Bw t q=[]:=Zi.1 e;rw[e2];exact⟨G,λb h=>x b (Qe m.size h),λ_ _=>rfl,x _ O,.nils _⟩
     ·have fa:Bw t q≠[]:=λe=>by
       have:=na.2 (by rw[e];rfl);cases this
      have z:=(Qr.1 a).1;have e3:(Bw t q).isEmpty=false:=by cases h:Bw t q with|nil=>exact absurd h fa|cons=>rfl
      refine⟨λb=>if b=g then((Bw t q).map (·.1)).length else G b,λb h=>?_,λb h=>if_neg O,?_,?_⟩
      ·show(if b=g then _ else _)=0;rw[if_neg O];exact x b (Qe m.size h)
      ·show(if w.heap.size+3=g then _ else _)=0;rw[if_neg O];exact x _ O
      ·rw[e3];exact LZ s (by simp[Gh.base])
    obtain⟨Gx,gz,go,g3,l⟩:=y;refine(Sn (vs:=[.agg #[G_ u0,G_ u1,G_ u2,G_ u3,G_ u4],encStr q,vs]) (G:=Gx) aVx (aPD k q (Bw t q).isEmpty ((Bw t q).map (·.1)) ja (by rw[Qu];exact ba) (λh=>by rw[List.isEmpty_iff.1 h];rfl)) rfl rfl rfl rfl (λj d u hd hu=>?_) gz).mono ?_
    ·match j,hd,hu with
     |0,hd,hu=>cases hd;cases hu;exact FK ua rfl x m (λb h=>Zb (go b h).symm)
     |1,hd,hu=>cases hd;cases hu;exact .str _
     |2,hd,hu=>cases hd;cases hu;exact l
    ·rintro e w1 ⟨u,G1,rfl,la,hz,ho,hR⟩;obtain⟨y0,y1,y2,y3,y4,rfl⟩:=fU hR;exact⟨y0,y1,y2,y3,y4,rfl,la,G1,hz,λb h=>(ho b (Zn h m.size)).trans (go b h),(ho _ O).trans g3,by rw[aF1];exact hR⟩
attribute [local go_sem] Oper.semAt_some
open Go.Shelf Go.Sort
def nG{n:Nat}{s:World}{t:Tr}{v:Value}(h:Ed n s t v)(g:n<=s.heap.size):Calls QA 102 #[.agg #[v]] s λe i=>e= .returned (.int .i64 (t.cnt:Nat))∧Below s.heap.size s i:=by
 have q:=h.one;obtain⟨G,y,x⟩:=h;refine(D6 (vs:=[.agg #[v]]) (G:=G) aNH (aDk t) Xk Xk rfl (λj d u p z=>?_) (λb m=>x b O)).mono ?_
 ·match j,p,z with
  |0,p,z=>cases p;cases z;exact P4 y q
 ·rintro e i ⟨u,a,rfl,m,w⟩;exact⟨X1,m⟩
def aLO{n:Nat}{s:World}{t:Tr}{v:Value}(h:Ed n s t v)(g:n<=s.heap.size):Calls QA 103 #[.agg #[v]] s λe i=>e= .returned (.int .i64 (t.wgt:Nat))∧Below s.heap.size s i:=by
 have q:=h.one;obtain⟨G,y,x⟩:=h;refine(D6 (vs:=[.agg #[v]]) (G:=G) aNG (aDj t) Xk Xk rfl (λj d u p z=>?_) (λb m=>x b O)).mono ?_
 ·match j,p,z with
  |0,p,z=>cases p;cases z;exact P4 y q
 ·rintro e i ⟨u,a,rfl,m,w⟩;exact⟨X1,m⟩
def aCy(w:World)(i t b:Obj):(((w.alloc i).alloc t).alloc b).heap.size=w.heap.size+3∧(((w.alloc i).alloc t).alloc b).heap[w.heap.size]?=some i∧(((w.alloc i).alloc t).alloc b).heap[w.heap.size+1]?=some t∧(((w.alloc i).alloc t).alloc b).heap[w.heap.size+1+1]?=some b:=by
 have u:∀(x:World)(o:Obj)(k:Nat),k<x.heap.size->(x.alloc o).heap[k]?=x.heap[k]?:=λx o k h=>Below.heap_alloc _ _ _ h
 have r:∀(x:World)(o:Obj),(x.alloc o).heap.size=x.heap.size+1:=λx o=>World.size_alloc x o
 have g:∀(x:World)(o:Obj),(x.alloc o).heap[x.heap.size]?=some o:=λx o=>World.alloc_heap_new x o
 refine⟨by simp only[r],?_,?_,?_⟩
 ·rw[u _ _ _ Xt,u _ _ _ Xt,g]
 ·rw[u _ _ _ Xt,←r w i,g]
 ·rw[←r w i,←r _ t,g]
def aCq(w:World)(i t b:Obj):Below w.heap.size w (((w.alloc i).alloc t).alloc b):=(((Below.refl _ w).alloc (Qg _) _).alloc U _).alloc Xc _
structure HS (w:World) (a b:Tr) (va vb:Value) (wx:World):Prop where
 bl:Below w.heap.size w wx
 sz:w.heap.size+3<=wx.heap.size
 y0:wx.heap[w.heap.size]?=some (.cells #[va] 36 (0,0))
 y1:wx.heap[w.heap.size+1]?=some (.cells #[vb] 36 (0,0))
 y2:wx.heap[w.heap.size+1+1]?=some (.cells #[.bool false] 4 (0,0))
 ta:Ed w.heap.size wx a va
 tb:Ed w.heap.size wx b vb
def HS.le{w s:World}{a b:Tr}{j z:Value}(h:HS w a b j z s):w.heap.size<=s.heap.size:=by have:=h.sz;omega
def HS.later3{w s i:World}{a b:Tr}{j z:Value}(h:HS w a b j z s)(m:Below (w.heap.size+3) s i):HS w a b j z i:=by
 have:=h.sz;have u:=m.mono (show w.heap.size<=w.heap.size+3 by omega);exact⟨h.bl.trans u,Qe h.sz m.size,(m.block _ O).trans h.y0,(m.block _ O).trans h.y1,(m.block _ O).trans h.y2,h.ta.below u,h.tb.below u⟩
def aOg{α:Type}{w:World}{a b:Tr}{j z:Value}{B:Nat}(q:w.heap.size+3<=B):OwnFrom B (λ(_:List α) W=>HS w a b j z W):=λs A t row i o n=>
 i.later3 ((Below.refl _ A).grown o i.sz (λr e=>by have:=(n r e).1;omega))
def HS.later{w s i:World}{a b:Tr}{j z:Value}(h:HS w a b j z s)(m:Below s.heap.size s i):HS w a b j z i:=by
 have:=h.sz;have u:=m.mono h.le;exact⟨h.bl.trans u,Qe h.sz m.size,(m.block _ O).trans h.y0,(m.block _ O).trans h.y1,(m.block _ O).trans h.y2,h.ta.below u,h.tb.below u⟩
def HS.drew{w s:World}{a b:Tr}{j z:Value}(h:HS w a b j z s):HS w a b j z s.drew:=h.later ⟨rfl,rfl,rfl,Qg _,λ_ _=>rfl⟩
def HS.cells{w s:World}{a b:Tr}{j z:Value}(h:HS w a b j z s):s.cell? ⟨w.heap.size,0,none⟩=some j∧s.cell? ⟨w.heap.size+1,0,none⟩=some z∧s.cell? ⟨w.heap.size+1+1,0,none⟩=some (.bool false)∧s.frozen? ⟨w.heap.size+1+1,0,none⟩=false:=by
 simp[World.cell?,World.frozen?,h.y0,h.y1,h.y2]
def aMz(w:World)(j z:Value)(a b:Tr)(y:Ed w.heap.size w a j)(q:Ed w.heap.size w b z)(i:a.cnt≠b.cnt):
  Calls QA 47 #[.agg #[j],.agg #[z]] w λe w'=>e= .returned (.bool false)∧Below w.heap.size w w':=by
 refine(callsIn_wide (n:=3)).1 ?_;refine callsIn_of_wp_marks func47 rfl trivial ?_ rfl;simp only[ntmps47,QT,Qb,Qf,Qx,QJ,QN,QO,QU,QP,Qi,Qh]
 gi_wp2
 obtain⟨r,y0,y1,y2⟩:=aCy w (Obj.cells #[j] 36) (Obj.cells #[z] 36) (Obj.cells #[.bool false] 4);have s:=aCq w (Obj.cells #[j] 36) (Obj.cells #[z] 36) (Obj.cells #[.bool false] 4);generalize (((w.alloc (Obj.cells #[j] 36)).alloc (Obj.cells #[z] 36)).alloc (Obj.cells #[.bool false] 4))=k at r y0 y1 y2 s ⊢;have H0:HS w a b j z k:=⟨s,O,y0,y1,y2,y.below s,q.below s⟩;clear r y0 y1 y2 s;obtain⟨k0,g,x,o⟩:=H0.cells;have H:=H0.drew;have p:1<=3-1:=V
 have f:Tryz.prog.follows .mixedOrders=true:=Xa
 have c:((a.cnt:Int)!=(b.cnt:Int))=true:=by simp only[bne_iff_ne,ne_eq];omega
 refine wpIn_mono (Q:=λu A W=>match u with| .normal=>A={tmps:=Zc (Value.agg #[j]::Value.agg #[z]::Value.pointer (some ⟨w.heap.size,0,none⟩)::Value.pointer (some ⟨w.heap.size+1,0,none⟩)::Value.pointer (some ⟨w.heap.size+1+1,0,none⟩)::undef::undef::undef::undef::Value.agg #[j]::Value.int .i64 (a.cnt:Nat)::Value.agg #[z]::Value.int .i64 (b.cnt:Nat)::Value.bool true::Value.bool true::undef::undef::undef::undef::undef::Value.bool true::undef::undef::undef::undef::undef::undef::undef::undef::undef::undef::undef::undef::undef::undef::undef::undef::undef::[]),defers:=[]}∧HS w a b j z W|_=>False) ?_ ?_
 ·gi_region_with_o (refine⟨trivial,?_⟩;try (gi_at_call 102;(first|refine(callsIn_wide.2 (nG (v:=j) (t:=a) H.ta H.le)).mono ?_ |refine(callsIn_wide.2 (nG (v:=z) (t:=b) H.tb H.le)).mono ?_);rintro e wy ⟨rfl,m⟩;replace H:=H.later m;obtain⟨j0,j1,j2,j3⟩:=H.cells))
  all_goals exact⟨rfl,H⟩
 ·rintro u A W hQ;cases u with
  |normal=>
   obtain⟨rfl,HW⟩:=hQ;have H2:=HW.cells;clear k0 g x o c;obtain⟨k0,g,x,o⟩:=H2
   gi_wp2
   exact⟨.bool false,by simp[results,results47,go_sem,heap_setCell_same _ _ 0 _ _ (Value.bool false) HW.y2,World.cell?],rfl,HW.bl.setCell Xc _⟩
  |_=>exact hQ.elim
def aMy(w:World)(va vb:Value)(t:Tr)(hA:Ed w.heap.size w t va)(hB:Ed w.heap.size w t vb)(z:Tr.Ord t.lst)(j:t.cnt<=400000):
  Calls QA 47 #[.agg #[va],.agg #[vb]] w λe w'=>e= .returned (.bool true)∧Below w.heap.size w w':=by
 refine(callsIn_wide (n:=3)).1 ?_;refine callsIn_of_wp_marks func47 rfl trivial ?_ rfl;simp only[ntmps47,QT,Qb,Qf,Qx,QJ,QN,QO,QU,QP,Qi,Qh]
 gi_wp2
 obtain⟨zz,y0,y1,y2⟩:=aCy w (Obj.cells #[va] 36) (Obj.cells #[vb] 36) (Obj.cells #[.bool false] 4);have ea:=aCq w (Obj.cells #[va] 36) (Obj.cells #[vb] 36) (Obj.cells #[.bool false] 4);generalize (((w.alloc (Obj.cells #[va] 36)).alloc (Obj.cells #[vb] 36)).alloc (Obj.cells #[.bool false] 4))=w3 at zz y0 y1 y2 ea ⊢;have H0:HS w t t va vb w3:=⟨ea,O,y0,y1,y2,hA.below ea,hB.below ea⟩;clear zz y0 y1 y2 ea;obtain⟨k0,k1,k2,k3⟩:=H0.cells;have H:=H0.drew;have hd:1<=3-1:=V
 have f:Tryz.prog.follows .mixedOrders=true:=Xa
 refine wpIn_mono (Q:=λex A W=>match ex with| .normal=>A={tmps:=Zc (Value.agg #[va]::Value.agg #[vb]::Value.pointer (some ⟨w.heap.size,0,none⟩)::Value.pointer (some ⟨w.heap.size+1,0,none⟩)::Value.pointer (some ⟨w.heap.size+1+1,0,none⟩)::undef::undef::undef::undef::Value.agg #[va]::Value.int .i64 (t.cnt:Nat)::Value.agg #[vb]::Value.int .i64 (t.cnt:Nat)::Value.bool false::Value.bool false::Value.agg #[va]::Value.int .i64 (t.wgt:Nat)::Value.agg #[vb]::Value.int .i64 (t.wgt:Nat)::Value.bool false::Value.bool false::undef::undef::undef::undef::undef::undef::undef::undef::undef::undef::undef::undef::undef::undef::undef::undef::undef::[]),defers:=[]}∧HS w t t va vb W|_=>False) ?_ ?_
 ·gi_region_with_o (refine⟨trivial,?_⟩;(first
   |(gi_at_call 102;(first|refine(callsIn_wide.2 (nG (v:=va) (t:=t) H.ta H.le)).mono ?_ |refine(callsIn_wide.2 (nG (v:=vb) (t:=t) H.tb H.le)).mono ?_);rintro e wy ⟨rfl,m⟩;replace H:=H.later m;obtain⟨j0,j1,j2,j3⟩:=H.cells)
   |(gi_at_call 103;(first|refine(callsIn_wide.2 (aLO (v:=va) (t:=t) H.ta H.le)).mono ?_ |refine(callsIn_wide.2 (aLO (v:=vb) (t:=t) H.tb H.le)).mono ?_);rintro e wy ⟨rfl,m⟩;replace H:=H.later m;obtain⟨j0,j1,j2,j3⟩:=H.cells)))
  all_goals exact⟨rfl,H⟩
 ·rintro ex A W hQ;cases ex with
  |normal=>
   obtain⟨rfl,HW⟩:=hQ;have H2:=HW.cells;clear k0 k1 k2 k3 H0 H;obtain⟨k0,k1,k2,k3⟩:=H2
   gi_wp2_with (refine⟨trivial,?_⟩;gi_at_call 21;refine(callsIn_wide.2 (aCm _ va [])).mono ?_;rintro e w' ⟨rfl,rfl⟩)
   have i:Below W.heap.size W ((W.alloc (Obj.cells #[va] 36)).alloc (Obj.cells #[encStr []] 9)):=((Below.refl _ W).alloc (Qg _) _).alloc U _;have H0:=HW.later i;have u:((W.alloc (Obj.cells #[va] 36)).alloc (Obj.cells #[encStr []] 9)).heap.size=W.heap.size+2:=U
   have b2:Boxed ((W.alloc (Obj.cells #[va] 36)).alloc (Obj.cells #[encStr []] 9)) W.heap.size 36 va:=(Boxed.new W 36 va).alloc (Obj.cells #[encStr []] 9);have b3:Boxed ((W.alloc (Obj.cells #[va] 36)).alloc (Obj.cells #[encStr []] 9)) (W.heap.size+1) 9 (encStr []):=by
    have:=Boxed.new (W.alloc (Obj.cells #[va] 36)) 9 (encStr [])
    rwa [World.size_alloc]at this
   have ra:=HW.sz;generalize ((W.alloc (Obj.cells #[va] 36)).alloc (Obj.cells #[encStr []] 9))=W0 at i H0 u b2 b3 ⊢;clear k0 k1 k2 k3;refine wpIn_rangeFunc_ownF rfl V (gf:=48) (lb:=#[.pointer (some ⟨W.heap.size,0,none⟩),.pointer (some ⟨W.heap.size+1,0,none⟩)]) rfl trivial (enters_of func48 Xa rfl)
    (ML 2 V W.heap.size (W.heap.size+1) w.heap.size t [] va j W0 b2 b3 H0.ta H0.le) dV.trans (aAa O O O) (Below.refl _ _) (λ_=>rfl)
    (λ(r:List (P6 t [])) Wx=>HS w t t va vb Wx∧W.heap.size+2<=Wx.heap.size)
    (λ_ _ _=>False)
    (OwnFrom.and (aOg O) (Own.from (Pb _) _))
    (λ_ _ _ _ _ k _ _=>k)
    ⟨H0,O⟩
    (λx=>{tmps:=Zc (Value.agg #[va]::Value.agg #[vb]::Value.pointer (some ⟨w.heap.size,0,none⟩)::Value.pointer (some ⟨w.heap.size+1,0,none⟩)::Value.pointer (some ⟨w.heap.size+1+1,0,none⟩)::encStr x.1.1::encStr x.1.2::undef::undef::Value.agg #[va]::Value.int .i64 (t.cnt:Nat)::Value.agg #[vb]::Value.int .i64 (t.cnt:Nat)::Value.bool false::Value.bool false::Value.agg #[va]::Value.int .i64 (t.wgt:Nat)::Value.agg #[vb]::Value.int .i64 (t.wgt:Nat)::Value.bool false::Value.bool false::Value.agg #[va]::Value.func (Fn.func 48) #[] #[Value.pointer (some ⟨W.heap.size,0,none⟩),Value.pointer (some ⟨W.heap.size+1,0,none⟩)]::encStr x.1.1::encStr x.1.2::undef::undef::undef::undef::undef::undef::undef::undef::undef::undef::undef::undef::undef::[]),defers:=[]}) ?assign ?body ?done ?stop
   case assign=>
    intro l x Wx K hK;clear u
    gi_wp2
    exact hK
   case body=>
    rintro l r ⟨x,q⟩ Wx ⟨HX,g⟩ y;clear u;obtain⟨k0,k1,k2,k3⟩:=HX.cells;rw[IC]at q;have hg:t.get x.1=some x.2:=by rw[Tr.get_lst _ t z];exact Tr.getL_mem z q
    have a:=aLQ HX.tb HX.le x.1;rw[hg]at a
    gi_wp2_with (refine⟨trivial,?_⟩;gi_at_call 27;refine(CallsIn.inRound l (callsIn_wide.2 a)).mono ?_;rintro e wy ⟨rfl,m⟩)
    exact⟨KeepsOthers.of_grownBy (B_ m (Qg _) none m.size) (λ_ _ e=>Xv),⟨m.mono HX.le,m.block _ O,m.block _ O⟩,HX.later m,by have:=m.size;omega⟩
   case done=>
    rintro D ys Wx hD db ⟨HX,g⟩ hK;have Hz:Aside (W0.heap.size=W.heap.size+2):=u;clear u;obtain⟨k0,k1,k2,k3⟩:=HX.cells
    gi_wp2
    have u:=Hz.out;have s:D≠w.heap.size+1+1:=O
    have hp:=heap_setCell_same _ _ 0 _ _ (Value.bool true) HX.y2;have d:(Wx.setCell ⟨w.heap.size+1+1,0,none⟩ (Value.bool true)).heap[D]?=some (.deferred (some [])):=by rw[Below.heap_setCell _ _ _ _ s];exact hK
    refine⟨U,.inl ⟨_,_,rfl,run_takeDeferred d,?_⟩⟩;have b:=(World.putObj_heap_other (o:= .deferred none) (w:=Wx.setCell ⟨w.heap.size+1+1,0,none⟩ (Value.bool true)) s.symm).trans hp;exact⟨.bool true,by simp[results,results47,go_sem,b,World.cell?],rfl,(HX.bl.setCell (p:=⟨w.heap.size+1+1,0,none⟩) Xc _).trans (belowK_b (w:=w) (Qg _) _ D _ _ O d rfl rfl)⟩
   case stop=>
    rintro D c r W _ _ h _;exact h.elim
  |_=>exact hQ.elim
def M1(p:Tr×Tr):List D:=[.agg [GK p.1],.agg [GK p.2]]
def Pj(x y)(h:M1 x=M1 y):x=y:=by
 obtain⟨a,b⟩:=x;obtain⟨c,d⟩:=y;simp only[M1,Q1,D.agg.injEq,and_true]at h;rw[E5 h.1,E5 h.2]
def oP:List D->Option D:=FX M1 (λp=>(p.1=p.2∧Tr.Ord p.1.lst∧p.1.cnt<=400000)∨p.1.cnt≠p.2.cnt) λp=> .bool (decide (p.1.cnt=p.2.cnt))
def aHX{t:Tr}(f:Tr.Ord t.lst)(o:t.cnt<=400000):oP [.agg [GK t],.agg [GK t]]=some (.bool true):=by
 have:=BV (mk:=M1) (ok:=λp=>(p.1=p.2∧Tr.Ord p.1.lst∧p.1.cnt<=400000)∨p.1.cnt≠p.2.cnt) (res:=λp=> .bool (decide (p.1.cnt=p.2.cnt))) (a:=(t,t)) Pj (.inl ⟨rfl,f,o⟩);rw[decide_eq_true rfl]at this;exact this
def aHY{a b:Tr}(h:a.cnt≠b.cnt):oP [.agg [GK a],.agg [GK b]]=some (.bool false):=by
 have:=BV (mk:=M1) (ok:=λp=>(p.1=p.2∧Tr.Ord p.1.lst∧p.1.cnt<=400000)∨p.1.cnt≠p.2.cnt) (res:=λp=> .bool (decide (p.1.cnt=p.2.cnt))) (a:=(a,b)) Pj (.inr h);rw[decide_eq_false h]at this;exact this
def aNd:Kq oP 47:=by
 refine Ia ⟨_,func47,Xa,Xa⟩ λds r y vs w G hl n x=>⟨?_,?_⟩
 ·obtain⟨p,_,_,rfl⟩:=Dc y;rfl
 ·obtain⟨⟨a,b⟩,g,rfl,rfl⟩:=Dc y
  match vs,hl with
  |[v0,v1],_=>
   obtain⟨j,rfl,d⟩:=Tg (n 0 _ v0 rfl rfl);obtain⟨z,rfl,c⟩:=Tg (n 1 _ v1 rfl rfl);rcases g with ⟨e,f,o⟩|hne
   ·simp only at e f o;subst e;refine(aMy w j z a ⟨G,d,x⟩ ⟨G,c,x⟩ f o).mono ?_;rintro e i ⟨rfl,m⟩;exact⟨_,G,rfl,m,λb h=>x b (Qe m.size h),λ_ _=>rfl,by simp only[decide_true];exact .bool _⟩
   ·refine(aMz w j z a b ⟨G,d,x⟩ ⟨G,c,x⟩ hne).mono ?_;rintro e i ⟨rfl,m⟩;exact⟨_,G,rfl,m,λb h=>x b (Qe m.size h),λ_ _=>rfl,by simp only[decide_eq_false hne];exact .bool _⟩
def aUk:=Aq []
def aDg:=RF aUk aBv [.t 2,.t 3] 26
def aNE:Kq aDg 160:=An (Aj func160) Ad
def aDf(p:Bs)(g:p.length<=1000000):aDg [.str p]=some (.tup [.str ((Tr.beyB p).getD []),.bool (Tr.beyB p).isSome]):=by
 refine Al (Qa rfl) ?_;unfold aBv;have a:IntKind.i64.wrap ((p.length:Int)-1)=(p.length:Int)-1:=GZ O O;simp only[GC,↓C2,Gy,simprocAttr,a];refine Wg g p.length _ _ (Qg _) rfl rfl (λe q o y x=>?_) (λo q=>?_)
 ·rw[QZ]at o;rw[o];simp only[GC,↓C2,Gy,simprocAttr,y,x]
  all_goals exact YR
 ·rw[QZ]at o;rw[o];simp only[GC,↓C2,Gy,simprocAttr]
  all_goals exact YR
def S_:=Aq [(157,Ac oF),(160,Ac aDg),(159,Ac oD)]
def aDq:=RF S_ aBD [.cell (some 1) 4] 37
def aNK:Kq aDq 90:=An (Aj func90) (Aa aAh (Aa aNE (Aa aAf Ad)))
def aDp(t:Tr)(p:Bs)(h:U9 t)(g:p.length<=1000000):aDq [.agg [GK t],.str p]=some (.agg [GK (Tr.dropT p t)]):=by
 refine Al (Qa rfl) ?_;unfold aBD;have i:=Rg t p h;have m:=aDf p g;have w:=Tr.cnt_split p t;have o:=Tr.wgt_split p t;obtain⟨u,y⟩:=h;unfold Tr.dropT;cases hb:Tr.beyB p with
 |none=>
  rw[hb]at m;simp only[Q9,Q5]at m;simp only[GC,↓C2,Gy,simprocAttr,GM,Ae S_ 157,i,Ae S_ 160,m]
  all_goals exact YR
 |some e=>
  rw[hb]at m;simp only[QI,Qk]at m;have s:=Rg (Tr.split p t).2 e ⟨O,O⟩;have r:=Tr.cnt_split e (Tr.split p t).2;have j:=Tr.wgt_split e (Tr.split p t).2;have n:=cY (Tr.split p t).1 (Tr.split e (Tr.split p t).2).2 O O;simp only[GC,↓C2,Gy,simprocAttr,GM,Ae S_ 157,i,Ae S_ 160,m,s,Ae S_ 159,n]
  all_goals exact YR
def S0:=Aq [(27,Ac aDQ),(157,Ac oF),(158,Ac oE),(159,Ac oD)]
def aDs:=RF S0 aBE [.cell (some 1) 4] 38
def aNL:Kq aDs 89:=An (Aj func89) (Aa aAm (Aa aAh (Aa aAg (Aa aAf Ad))))
def aDr(t:Tr)(q:Bs)(h:U9 t)(z:Tr.Ord t.lst):aDs [.agg [GK t],.str q]=some (.agg [GK (Tr.delT q t)]):=by
 refine Al (Qa rfl) ?_;unfold aBE;have m:=dF t q;have i:=Rg t q h;have w:=Tr.cnt_split q t;have o:=Tr.wgt_split q t;obtain⟨u,f⟩:=h;unfold Tr.delT;cases hg:t.get q with
 |none=>
  rw[hg]at m;simp only[Q9,Q5]at m;simp only[GC,↓C2,Gy,simprocAttr,GM,Ae S0 27,m]
  all_goals exact YR
 |some v=>
  rw[hg]at m;simp only[QI,Qk]at m;have c:(Tr.split q t).2≠ .nil:=λe=>by
   have p:=(Tr.lst_split q t z).2;rw[e,Tr.get_lst q t z]at *;rw[Tr.fil_ge z (Tr.getL_some hg)]at p;cases p
  simp only;cases hz:(Tr.split q t).2 with
  |nil=>exact absurd hz c
  |node a x y b=>
   rw[hz]at i w o;simp only[Tr.cnt,Tr.wgt]at w o;have s:=cZ a x y b ⟨Xh,Xg⟩;have r:=Tr.cnt_first a x y b;have j:=Tr.wgt_first a x y b;have n:=cY (Tr.split q t).1 (Tr.first a x y b).2.2 O O;simp only[GC,↓C2,Gy,simprocAttr,GM,Ae S0 27,m,Ae S0 157,i,Ae S0 158,s,Ae S0 159,n]
   all_goals exact YR
def wH{a b:List (Bs×Bs)}(h:a.Sublist b):Tr.sizeL a<=Tr.sizeL b:=by
 induction h with
 |slnil=>exact Qg _
 |cons x _ ih=>obtain⟨k,v⟩:=x;rw[Tr.size_cons];omega
 |cons_cons x _ ih=>obtain⟨k,v⟩:=x;rw[Tr.size_cons,Tr.size_cons];omega
def VZ(x:Op1){t:Tr}(h:Tr.Ord t.lst):(V_ x t).cnt<=1+t.cnt∧(V_ x t).wgt<=4+x.2.1.length+x.2.2.length+t.wgt:=by
 have j:∀u:Tr,u.lst.Sublist t.lst->u.cnt<=t.cnt∧u.wgt<=t.wgt:=λu r=>by
  rw[←Tr.cnt_lst,←Tr.cnt_lst,Tr.wgt_lst,Tr.wgt_lst t];exact⟨r.length_le,wH r⟩
 unfold V_;split
 ·have:=Mv x.2.1 x.2.2 t;omega
 split
 ·have:=j (Tr.delT x.2.1 t) (by rw[Tr.lst_del _ t h];exact Zh);omega
 split
 ·have:=j (Tr.dropT x.2.1 t) (by rw[Tr.lst_drop _ t h];exact Tr.drop_sub _ h);omega
 ·omega
def cT:=Aq [(83,Ac oH),(89,Ac aDs),(90,Ac aDq)]
def aDJ:=RF cT aBR [.cell (some 1) 4] 37
def aNZ:Kq aDJ 39:=An (Aj func39) (Aa aAj (Aa aNL (Aa aNK Ad)))
def Wm{l:List Op1}{nl:Bool}{Q:Ex->St->Prop}(hk:∀x∈l,x.2.1.length<=100∧x.2.2.length<=400){R:Tr}(hQ:∀u,u.m [0] 0=some (GK R)->u.m [1] 0=some .nilptr->u.s 2= .ptr [0] 0->u.s 4= .ptr [1] 0->Q (.exit 0) u):
  ∀(f j:Nat)(t:Tr)(w:St) g,l.length=j+f->l.length<=100000->Tr.Ord t.lst->t.cnt+f<=700000->t.wgt+600*f<=700000000000->FQ (l.drop j) t=R->2<=w.c->w.s 2= .ptr [0] 0->w.s 4= .ptr [1] 0->w.s 7= .slice nl [] (D5 l)->w.s 8= .int .i64 (l.length:Int)->w.s 9= .int .i64 (j:Int)->
   w.m [0] 0=some (GK t)->w.m [1] 0=some .nilptr->A9 cT [] Mn Q w g
 |0,j,t,w,g,hf,hl,ho,hc,hw,hR,h2c,h2,h4,h7,h8,h9,m0,m1=>by
  refine Af Mn.eq_1 ?_;have d1:((j:Int)<l.length)=False:=eq_false O;rw[QR O]at hR;simp only[FQ]at hR;subst hR;simp only[GC,↓C2,Gy,simprocAttr,h8,h9,d1];exact hQ _ m0 m1 h2 h4
 |f+1,j,t,w,g,hf,hl,ho,hc,hw,hR,h2c,h2,h4,h7,h8,h9,m0,m1=>by
  have ih:=Wm (nl:=nl) hk hQ f (j+1);have z:j<l.length:=O
  have p:(D5 l)[j]?=some (opD l[j]):=by unfold D5;rw[QF,Qc z];rfl
  have pa:=hk l[j] (QD z);rw[QB z]at hR;simp only[FQ]at hR;have r:=VZ l[j] ho;have n:=(IN l[j] ho).1;generalize l[j]=x at *;refine Af Mn.eq_1 ?_;obtain⟨ma,ia,ea⟩:=w;simp only at h2 h4 h7 h8 h9 m0 m1 h2c;have d1:((j:Int)<l.length)=True:=eq_true O;have oa:=nJ (j:=j);have sa:IntKind.i64.wrap ((j:Int)+1)=((j+1:Nat):Int):=GZ O O;have z3:∀{m:GB} {i:Id} {x0 x1 x2:D},Ag (m.put i 0 [x0,x1,x2]) i 0 3=some [x0,x1,x2]:=Ax rfl;obtain⟨k,q,v⟩:=x;unfold opD at p;simp only at pa r n hR p;unfold V_ at r n hR;simp only at r n hR;have a:∀{m:GB} {q o i:Nat} {x:List D},q<2->2<=i->m.put [i] 0 x [q] o=m [q] o:=λhq hi=>aA Xc
  have b:∀{i:Nat},2<=i->(([0]:Id)=[i])=False:=λhi=>Xc
  have d:∀{i:Nat},2<=i->(([1]:Id)=[i])=False:=λhi=>Xc
  have s1:∀{m:GB} {x:D},Ag (m.put [0] 0 [x]) [0] 0 1=some [x]:=Ax rfl;have s2:∀{m:GB} {x:D},Ag (m.put [0] 0 [x]) [1] 0 1=Ag m [1] 0 1:=Ay V;have e:∀{m:GB} {x:List D},m.put [0] 0 x [1] 0=m [1] 0:=aA V;have y:U9 t:=⟨O,O⟩;by_cases c1:k=1
  ·subst c1;simp only[reduceIte]at r n hR;have i1:=MG t q v O O;simp (disch:=first|assumption|omega)only[GC,↓C2,Gy,simprocAttr,GM,h2,h4,h7,h8,h9,d1,oa,Qj,p,z3,a,m0,m1,Ae cT 83,i1,sa,b,d];refine ih _ _ _ O hl n O O hR Xb h2 h4 h7 h8 rfl rfl ?_;simp (disch:=omega)only[e,a,m1]
  rw[if_neg c1]at r n hR;have n1:(k=1)=False:=eq_false c1;by_cases c2:k=2
  ·subst c2;simp only[reduceIte]at r n hR;have i1:=aDr t q y ho;simp (disch:=first|assumption|omega)only[GC,↓C2,Gy,simprocAttr,GM,h2,h4,h7,h8,h9,d1,oa,Qj,p,z3,a,m0,m1,Ae cT 89,i1,sa,b,d];refine ih _ _ _ O hl n O O hR Xb h2 h4 h7 h8 rfl rfl ?_;simp (disch:=omega)only[e,a,m1]
  rw[if_neg c2]at r n hR;have n2:(k=2)=False:=eq_false c2;by_cases c3:k=3
  ·subst c3;simp only[reduceIte]at r n hR;have i1:=aDp t q y O;simp (disch:=first|assumption|omega)only[GC,↓C2,Gy,simprocAttr,GM,h2,h4,h7,h8,h9,d1,oa,Qj,p,z3,a,m0,m1,Ae cT 90,i1,sa,b,d];refine ih _ _ _ O hl n O O hR Xb h2 h4 h7 h8 rfl rfl ?_;simp (disch:=omega)only[e,a,m1]
  rw[if_neg c3]at r n hR;have n3:(k=3)=False:=eq_false c3;simp (disch:=first|assumption|omega)only[GC,↓C2,Gy,simprocAttr,GM,h2,h4,h7,h8,h9,d1,oa,Qj,p,z3,a,m0,m1,n1,n2,n3,sa,b,d];refine ih _ _ _ O hl n O O hR Xb h2 h4 h7 h8 rfl ?_ ?_
  ·simp (disch:=omega)only[a,m0]
  ·simp (disch:=omega)only[a,m1]
def aDI(t:Tr)(nl:Bool)(l:List Op1)(hl:l.length<=100000)(s:∀x∈l,x.2.1.length<=100∧x.2.2.length<=400)(f:Tr.Ord t.lst)(o:t.cnt+l.length<=700000)(k:t.wgt+600*l.length<=700000000000):aDJ [.agg [GK t],.slice nl [] (D5 l)]=some (.agg [GK (FQ l t)]):=by
 refine Al (Qa rfl) ?_;unfold aBR;have r:(D5 l).length=l.length:=Qu ..;simp only[GC,↓C2,Gy,simprocAttr,GM,r];refine Wm (nl:=nl) s (R:=FQ l t) (λq a1 g z n=>?_) l.length 0 t _ _ O hl f o k rfl (by show 2<=5;decide) rfl rfl rfl rfl rfl rfl rfl;simp only[GC,↓C2,Gy,simprocAttr,GM,a1,g,z,n]
 all_goals exact YR
def Mh:=y3 f96 5 [] []
def aBC:=y2 f96 [] [(5,Mh)]
def PR:=y3 f98 3 [] []
def aBB:=y2 f98 [] [(3,PR)]
def Mf:=y3 f167 6 [] []
def Me:=y3 f167 4 [] [(6,Mf)]
def aBu:=y2 f167 [] [(4,Me)]
def Mm:=y3 f43 2 [] []
def aBQ:=y2 f43 [] [(2,Mm)]
def PQ:=y3 f100 5 [] []
def aBA:=y2 f100 [] [(5,PQ)]
def aBP:=y2 f45 [(17,[(7,0)]),(20,[(7,0)]),(27,[(6,0)]),(38,[(8,0)]),(39,[(3,0)])] []
def Mq:=y3 f15 11 [] []
def aBZ:=y2 f15 [] [(11,Mq)]
def Cr(c:UInt8):Int:=if 48<=c.toNat∧c.toNat<=57 then(c.toNat:Int)-48 else if 97<=c.toNat∧c.toNat<=102 then(c.toNat:Int)-87 else-1
def cV(c:UInt8):aPh [.int .u8 (c.toNat:Int)]=some (.int .i64 (Cr c)):=by
 refine Al (Qa rfl) ?_;have o:=c.toNat_lt;unfold aJV Cr;by_cases u:48<=c.toNat∧c.toNat<=57
 ·have a1:((48:Int)<=(c.toNat:Int))=True:=eq_true O;have t:((c.toNat:Int)<=57)=True:=eq_true O;have j:IntKind.u8.wrap ((c.toNat:Int)-48)=(c.toNat:Int)-48:=w8 O O;have m:IntKind.i64.wrap ((c.toNat:Int)-48)=(c.toNat:Int)-48:=GZ O O;rw[if_pos u];simp only[GC,↓C2,Gy,simprocAttr,a1,t,j,m]
  all_goals exact YR
 rw[if_neg u];by_cases y:97<=c.toNat∧c.toNat<=102
 ·have a1:((48:Int)<=(c.toNat:Int))=True:=eq_true O;have t:((c.toNat:Int)<=57)=False:=eq_false O;have z:((97:Int)<=(c.toNat:Int))=True:=eq_true O;have n:((c.toNat:Int)<=102)=True:=eq_true O;have j:IntKind.u8.wrap ((c.toNat:Int)-97)=(c.toNat:Int)-97:=w8 O O;have m:IntKind.i64.wrap ((c.toNat:Int)-97)=(c.toNat:Int)-97:=GZ O O;have f:IntKind.i64.wrap ((c.toNat:Int)-97+10)=(c.toNat:Int)-87:=by rw[GZ O O];omega
  rw[if_pos y];simp only[GC,↓C2,Gy,simprocAttr,a1,t,z,n,j,m,f]
  all_goals exact YR
 rw[if_neg y];by_cases r:48<=c.toNat
 ·have a1:((48:Int)<=(c.toNat:Int))=True:=eq_true O;have t:((c.toNat:Int)<=57)=False:=eq_false O;by_cases q:97<=c.toNat
  ·have z:((97:Int)<=(c.toNat:Int))=True:=eq_true O;have n:((c.toNat:Int)<=102)=False:=eq_false O;simp only[GC,↓C2,Gy,simprocAttr,a1,t,z,n]
   all_goals exact YR
  ·have z:((97:Int)<=(c.toNat:Int))=False:=eq_false O;simp only[GC,↓C2,Gy,simprocAttr,a1,t,z]
   all_goals exact YR
 ·have a1:((48:Int)<=(c.toNat:Int))=False:=eq_false O;have z:((97:Int)<=(c.toNat:Int))=False:=eq_false O;simp only[GC,↓C2,Gy,simprocAttr,a1,z]
  all_goals exact YR
def aBb(c:UInt8):-1<=Cr c∧Cr c<=15:=by
 unfold Cr
 repeat' split
 all_goals omega
def Cz:Bs->Option Bs
 |[]=>some []
 |[_]=>none
 |a::b::r=>if Cr a<0∨Cr b<0 then none else(Cz r).map λx=>UInt8.ofNat (16*Cr a+Cr b).toNat::x
def LK(a b:UInt8)(r:Bs):Cz (a::b::r)=if Cr a<0∨Cr b<0 then none else(Cz r).map λx=>UInt8.ofNat (16*Cr a+Cr b).toNat::x:=by rw[Cz]
def kD:∀(n:Nat)(s:Bs),s.length=2*n+1->Cz s=none
 |0,s,h=>by
  match s,h with
  |[_],_=>rfl
 |n+1,s,h=>by
  match s,h with
  |a::b::r,h=>
   have:=kD n r Yb;unfold Cz;rw[this];split<;>rfl
def aC3(s:Bs)(hl:s.length<=1000000):aPv [.str s]=some (.tup [.str ((Cz s).getD []),.bool (Cz s).isSome]):=by
 refine Al (Qa rfl) ?_;unfold aKq;rcases(by omega:s.length=2*(s.length / 2)∨s.length=2*(s.length / 2)+1)with he|he
 ·have hm:((s.length:Int).tmod 2)=0:=by rw[Q6 O];omega
  have hq:IntKind.i64.wrap ((s.length:Int).tdiv 2)=((s.length / 2:Nat):Int):=by rw[Int.tdiv_eq_ediv_of_nonneg O,GZ O O];omega
  generalize r:s.length / 2=n at *;simp only[↓C2,GA,Gy,reduceIte,Qz,Qx,reduceCtorEq,Q3,Q4,hm,hq];refine As.intro ⟨O,O⟩ ?_;simp only[↓C2,GD,Gy,reduceIte,Qz,Qx];refine BI (n:=n) (I:=λj v=>v.s 0= .str s∧v.s 5= .int .i64 ((2*j:Nat):Int)∧∃t x,v.s 4= .slice false t (AF x)∧x.length=j∧Cz s=(Cz (s.drop (2*j))).map (x++·)∧LG 9 _ 5 v.m v.c false t) (λj hj ih v g hI=>?_) (λv g hI=>?_) 0 (Qs _) _ _ ⟨rfl,rfl,_,[],rfl,rfl,by cases h:Cz s<;>simp[h],⟨λ_ _ _=>rfl,.inr ⟨_,rfl,O,Xb,XT⟩,Xb⟩⟩
  ·obtain⟨ma,ia,ea⟩:=v;obtain⟨o,h5,t,x,h4,ra,hu,hG⟩:=hI;simp only at o h5 h4 hG;refine Af Uv.eq_1 ?_;have w:(((2*j:Nat):Int)<(s.length:Int)):=by omega
   have oa:(0:Int)<=((2*j:Nat):Int):=O
   have e:(0:Int)<=((2*j+1:Nat):Int):=O
   have sa:IntKind.i64.wrap (((2*j:Nat):Int)+1)=((2*j+1:Nat):Int):=GZ O O;have i:IntKind.i64.wrap (((2*j:Nat):Int)+2)=((2*(j+1):Nat):Int):=YF
   have b1:s[2*j]?=some (s[2*j]' O):=Qc _;have b2:s[2*j+1]?=some (s[2*j+1]' O):=Qc _;have p:s.drop (2*j)=s[2*j]' O::s[2*j+1]' O::s.drop (2*(j+1)):=by
    rw[QB O,QB O];rfl
   rw[p]at hu;generalize (s[2*j]' O)=a at *;generalize (s[2*j+1]' O)=b at *;have u:=cV a;have y:=cV b;have k1:=aBb a;have k2:=aBb b;have fa:∀a:Int,AO .shl (.int .i64 a) (.int .u64 4)=some (.int .i64 (IntKind.i64.wrap (a*2 ^ min (4:Int).toNat IntKind.i64.bits))):=λa=>rfl
   rw[LK]at hu;simp only[↓C2,GA,reduceIte,Qz,Qx,reduceCtorEq,o,h5,w,oa,e,sa,Qj,b1,b2,Ae aT6 165,u,y];refine AY ?_;by_cases n1:Cr a<0
   ·rw[if_pos (.inl n1)]at hu;rw[hu];have f:(Cr a<0)=True:=eq_true n1;simp only[↓C2,GA,Gy,reduceIte,Qz,Qx,reduceCtorEq,h4,f]
    all_goals exact YR
   by_cases n2:Cr b<0
   ·rw[if_pos (.inr n2)]at hu;rw[hu];have f:(Cr a<0)=False:=eq_false n1;have d:(Cr b<0)=True:=eq_true n2;simp only[↓C2,GA,Gy,reduceIte,Qz,Qx,reduceCtorEq,h4,f,d]
    all_goals exact YR
   rw[if_neg (λh=>h.elim n1 n2)]at hu;have f:(Cr a<0)=False:=eq_false n1;have d:(Cr b<0)=False:=eq_false n2;have or:=orE (Cr a).toNat O (Cr b).toNat O;rw[Q2 O,Q2 O]at or;have k:((16*(Cr a).toNat+(Cr b).toNat:Nat):Int)=16*Cr a+Cr b:=O
   rw[k]at or;have q:((UInt8.ofNat (16*Cr a+Cr b).toNat).toNat:Int)=16*Cr a+Cr b:=by
    rw[UInt8.toNat_ofNat'];omega
   have ga:AF x++[.int .u8 (16*Cr a+Cr b)]=AF (x++[UInt8.ofNat (16*Cr a+Cr b).toNat]):=by
    rw[ET];show _=AF x++[.int .u8 ((UInt8.ofNat (16*Cr a+Cr b).toNat).toNat:Int)];rw[q]
   have z:(AF x).length=j:=by rw[Ci,ra]
   simp only[↓C2,GA,Gy,reduceIte,Qz,Qx,reduceCtorEq,h4,f,d,fa,or];refine As.intro ⟨by simp only[z];omega,rfl,Yq⟩ ?_;rw[ga];simp only[↓C2,GA,Gy,reduceIte,Qz,Qx,h5,i];refine ih _ _ ⟨o,rfl,_,_,rfl,by simp[ra],?_,(by first|exact LG.nil (hG.appf O Xb)|exact LG.nil ((hG.put O).appf O Xb)|exact LG.nil (((hG.put O).put O).appf O Xb)|exact LG.nil ((((hG.put O).put O).put O).appf O Xb)|exact LG.nil (((((hG.put O).put O).put O).put O).appf O Xb)|exact LG.nil ((((((hG.put O).put O).put O).put O).put O).appf O Xb))⟩;rw[hu];cases Cz (s.drop (2*(j+1)))<;>simp
  ·obtain⟨o,h5,t,x,h4,ra,hu,hG⟩:=hI;refine Af Uv.eq_1 ?_;have pa:(((2*n:Nat):Int)<(s.length:Int))=False:=eq_false O;rw[QR O]at hu;rw[hu];simp only[QS,↓C2,GA,Gy,reduceIte,Qz,Qx,reduceCtorEq,o,h5,h4,pa,CZ]
   all_goals (first|rfl|exact⟨rfl,rfl⟩|(simp[Cz];done))
 ·have hm:((s.length:Int).tmod 2)=1:=by rw[Q6 O];omega
  rw[kD _ s he];simp only[GC,↓C2,Gy,simprocAttr,hm]
  all_goals exact YR
def Um(s:Bs)(p:Nat):(GT s p<128∧Utf8.decode ⟨s.toArray⟩ p=(GT s p,1))∨(128<=GT s p∧128<=(Utf8.decode ⟨s.toArray⟩ p).1):=by
 by_cases h:GT s p<128
 ·refine .inl ⟨h,?_⟩;unfold Utf8.decode;simp only[Na,Zw,h,if_true]
 ·refine .inr ⟨O,?_⟩;have i:=P1 s p;unfold Utf8.decode;simp only[Na,Zw,h,if_false]
  (repeat' split)<;>simp_all [Utf8.runeError]<;>omega
def vE(s:Bs):Nat->Nat->Int->Int
 |0,_,n=>n
 |f+1,p,n=>if p<s.length then(if 48<=GT s p∧GT s p<=57 then vE s f (p+1) (10*n+((GT s p:Int)-48))else-1)else n
def Hi(s:Bs):Int:=if s=[]∨3<s.length∨(1<s.length∧s.head?=some 48)then-1 else vE s s.length 0 0
def bN(p:Nat):Int:=if p=0 then 0 else if p=1 then 9 else if p=2 then 99 else 999
def aCs(p:Nat):bN p<=999:=by unfold bN;repeat' split<;>omega
def UJ{p:Nat}{n c:Int}(h:n<=bN p)(g:p<3)(o:c<=9):10*n+c<=bN (p+1):=by
 rcases(by omega:p=0∨p=1∨p=2)with rfl|rfl|rfl<;>simp[bN]at *<;>omega
def yN(s:Bs)(r:s.length<=3):∀(f p:Nat)(n:Int),0<=n->n<=bN p->-1<=vE s f p n∧vE s f p n<=999
 |0,p,n,h0,h1=>by have:=aCs p;unfold vE;omega
 |f+1,p,n,h0,h1=>by
  have:=aCs p;unfold vE;split
  ·split
   ·exact yN s r f (p+1) _ O (UJ h1 O O)
   ·omega
  ·omega
def aRH(s:Bs):-1<=Hi s∧Hi s<=999:=by
 unfold Hi;split
 ·omega
 ·exact yN s O _ 0 0 (Q0 _) V
def aP0{x:Int}(u:-2147483648<=x)(y:x<2147483648):IntKind.i32.wrap x=x:=IntWalk.i32_in _ ⟨u,O⟩
def Wi{S:Gz}{ns i:Id}{s:Bs}{Q:Ex->St->Prop}{e:Int}(r:s.length<=3)(a:∀v,e=-1->v.s 2= .int .i64 (-1)->Q .ret v)(fa:∀v,v.s 3= .int .i64 e->Q (.exit 0) v):
  ∀(f p:Nat)(n:Int) v g,s.length<=p+f->0<=n->n<=bN p->vE s f p n=e->v.s 24= .itp i->v.s 3= .int .i64 n->v.m i 1=some (.it s p)->A9 S ns Mh Q v g:=by
 intro f;induction f with
 |zero=>
  intro p n v g hf j na z o x u;refine Af Mh.eq_1 ?_;have:¬(p<s.length):=O
  simp only[↓C2,GD,GN,simprocAttr,u,o,this];exact fa _ (by rw[←z];exact x)
 |succ f ih=>
  intro p n v g hf j na z o x u;refine Af Mh.eq_1 ?_;unfold vE at z;have w:=aCs p;by_cases y:p<s.length
  ·rw[if_pos y]at z;rcases Um s p with ⟨q,t⟩|⟨q,t⟩
   ·have k:v.m.put i 1 [.it s (p+(Utf8.decode ⟨s.toArray⟩ p).2)] i 1=some (.it s (p+1)):=by rw[DY,if_pos ⟨rfl,rfl⟩,t]
    by_cases c:48<=GT s p∧GT s p<=57
    ·rw[if_pos c]at z;have a1:((GT s p:Int)<48)=False:=eq_false O;have a2:((57:Int)<(GT s p:Int))=False:=eq_false O;have e1:IntKind.i64.wrap (10*n)=10*n:=GZ O O;have b:IntKind.i32.wrap ((GT s p:Int)-48)=(GT s p:Int)-48:=aP0 O O;have e3:IntKind.i64.wrap ((GT s p:Int)-48)=(GT s p:Int)-48:=GZ O O;have e4:IntKind.i64.wrap (10*n+((GT s p:Int)-48))=10*n+((GT s p:Int)-48):=GZ O O;simp only[↓C2,GD,GN,simprocAttr,u,o,x,y,t,a1,a2,e1,b,e3,e4];exact ih (p+1) _ _ _ O O (UJ na O O) z o rfl k
    ·rw[if_neg c]at z;by_cases c1:GT s p<48
     ·have a1:((GT s p:Int)<48)=True:=eq_true O;simp only[↓C2,GD,GN,simprocAttr,u,o,x,y,t,a1];exact a _ z.symm rfl
     ·have a1:((GT s p:Int)<48)=False:=eq_false O;have a2:((57:Int)<(GT s p:Int))=True:=eq_true O;simp only[↓C2,GD,GN,simprocAttr,u,o,x,y,t,a1,a2];exact a _ z.symm rfl
   ·rw[if_neg O]at z;have a1:(((Utf8.decode ⟨s.toArray⟩ p).1:Int)<48)=False:=eq_false O;have a2:((57:Int)<((Utf8.decode ⟨s.toArray⟩ p).1:Int))=True:=eq_true O;simp only[↓C2,GD,GN,simprocAttr,u,o,x,y,a1,a2];exact a _ z.symm rfl
  ·rw[if_neg y]at z;simp only[↓C2,GD,GN,simprocAttr,u,o,y];exact fa _ (by rw[←z];exact x)
def aUm:=Aq []
def oG:=RF aUm aBC [.t 2] 41
def aAi:Kq oG 96:=An (Aj func96) Ad
def dA(s:Bs):oG [.str s]=some (.int .i64 (Hi s)):=by
 refine Al (Qa rfl) ?_;unfold aBC;unfold Hi;by_cases f:s=[]
 ·subst f;rw[if_pos (.inl rfl)];simp only[GC,↓C2,Gy,simprocAttr]
  all_goals exact YR
 have m:(s=[])=False:=eq_false f;by_cases p:3<s.length
 ·rw[if_pos (.inr (.inl p))];have c1:((3:Int)<(s.length:Int))=True:=eq_true O;simp only[GC,↓C2,Gy,simprocAttr,m,c1]
  all_goals exact YR
 have c1:((3:Int)<(s.length:Int))=False:=eq_false O;have q:s[0]?=s.head?:=by cases s<;>rfl
 by_cases u:1<s.length
 ·have n:((1:Int)<(s.length:Int))=True:=eq_true O;obtain⟨c,r,rfl⟩:∃c r,s=c::r:=by cases s with|nil=>exact absurd rfl f|cons c r=>exact⟨c,r,rfl⟩
  by_cases y:c=48
  ·rw[if_pos (.inr (.inr ⟨u,XI⟩))];have o:((c.toNat:Int)=48)=True:=eq_true XI;simp only[GC,↓C2,Gy,simprocAttr,m,c1,n,Qo,o]
   all_goals exact YR
  ·rw[if_neg (by rintro(h|h|⟨_,h⟩);exact f h;exact p h;exact y (ZC h))];have o:((c.toNat:Int)=48)=False:=eq_false (λe=>y (UInt8.toNat_inj.1 (by show c.toNat=48;omega)));simp only[GC,↓C2,Gy,simprocAttr,m,c1,n,Qo,o];refine Wi (s:=c::r) O (λv z h=>?_) (λv h=>?_) (c::r).length 0 0 _ _ O (Q0 _) V rfl rfl rfl rfl
   ·rw[z];simp only[GC,↓C2,Gy,simprocAttr,h]
    all_goals exact YR
   ·simp only[GC,↓C2,Gy,simprocAttr,h]
    all_goals exact YR
 ·have n:((1:Int)<(s.length:Int))=False:=eq_false O;rw[if_neg (by rintro(h|h|⟨h,_⟩);exact f h;exact p h;exact u h)];simp only[GC,↓C2,Gy,simprocAttr,m,c1,n];refine Wi (s:=s) O (λv z h=>?_) (λv h=>?_) s.length 0 0 _ _ O (Q0 _) V rfl rfl rfl rfl
  ·rw[z];simp only[GC,↓C2,Gy,simprocAttr,h]
   all_goals exact YR
  ·simp only[GC,↓C2,Gy,simprocAttr,h]
   all_goals exact YR
def yF(w:Bs):Nat->Nat->Int
 |0,_=>0
 |f+1,k=>if A2 (k:Int)=w then(k:Int)else yF w f (k+1)
def fC(w:Bs):Int:=yF w 18 1
def yE(w:Bs):∀(f k:Nat),1<=k->0<=yF w f k∧yF w f k<=max 0 ((k:Int)+f-1)
 |0,k,h=>by unfold yF;omega
 |f+1,k,h=>by
  have:=yE w f (k+1) O;unfold yF;split<;>omega
def yD(w:Bs):0<=fC w∧fC w<=18:=by
 have:=yE w 18 1 (Qg _);unfold fC;omega
def nN:=Aq [(44,Ac uI)]
def aDH:=RF nN aBQ [.t 2] 14
def aNY:Kq aDH 43:=An (Aj func43) (Aa lJ Ad)
def Wl{w:Bs}{Q:Ex->St->Prop}{e:Int}(a:∀v,v.s 2= .int .u8 e->Q .ret v)(i:∀v,e=0->Q (.exit 0) v):∀(f k:Nat)(v:St) g,k+f=19->yF w f k=e->v.s 0= .str w->v.s 3= .int .u8 (k:Int)->A9 nN [] Mm Q v g
 |0,k,v,g,hf,he,h0,h3=>by
  refine Af Mm.eq_1 ?_;have q:((k:Int)<=18)=False:=eq_false O;simp only[GC,↓C2,Gy,simprocAttr,h0,h3,q];exact i _ he.symm
 |f+1,k,v,g,hf,he,h0,h3=>by
  have ih:=Wl (w:=w) a i f (k+1);refine Af Mm.eq_1 ?_;obtain⟨p,t,b⟩:=v;simp only at h0 h3;have q:((k:Int)<=18)=True:=eq_true O;have x:=OR (op:=(k:Int)) O O;have j:IntKind.u8.wrap ((k:Int)+1)=((k+1:Nat):Int):=by rw[w8 O O];omega
  unfold yF at he;by_cases c:A2 (k:Int)=w
  ·rw[if_pos c]at he;have c':(A2 (k:Int)=w)=True:=eq_true c;simp only[GC,↓C2,Gy,simprocAttr,h0,h3,q,Ae nN 44,x,c'];exact a _ (by rw[←he];rfl)
  ·rw[if_neg c]at he;have c':(A2 (k:Int)=w)=False:=eq_false c;simp only[GC,↓C2,Gy,simprocAttr,h0,h3,q,Ae nN 44,x,c',j];exact ih _ _ O he h0 rfl
def aDG(w:Bs):aDH [.str w]=some (.int .u8 (fC w)):=by
 refine Al (Qa rfl) ?_;unfold aBQ;simp only[GC,↓C2,Gy,simprocAttr];refine Wl (w:=w) (e:=fC w) (λv h=>?_) (λv h=>?_) 18 1 _ _ rfl rfl rfl rfl
 ·simp only[GC,↓C2,Gy,simprocAttr,h]
  all_goals exact YR
 ·rw[h];simp only[GC,↓C2,Gy,simprocAttr]
  all_goals exact YR
def aC0:=Aq [(42,Ac DJ),(96,Ac oG)]
def aDo:=RF aC0 aBB [.t 2] 20
def aNJ:Kq aDo 98:=An (Aj func98) (Aa aFC (Aa aAi Ad))
def aDn(s:Bs)(hl:s.length<=1000):aDo [.str s]=some (.slice false [] (AH ((splitC 44 s).map Hi))):=by
 refine Al (Qa rfl) ?_;unfold aBB;have i:=Nx (s:=s) (q:=44) O;have va:=CB (q:=44) s;have fa:=Dd (q:=44) s;generalize splitC 44 s=l at *;have r:((strsD l).length:Int)=(l.length:Int):=by rw[AM]
 simp only[GC,↓C2,Gy,simprocAttr,Ae aC0 42,i,r];refine BI (n:=l.length) (I:=λj v=>v.s 7= .slice false [] (strsD l)∧v.s 8= .int .i64 ((strsD l).length:Int)∧v.s 9= .int .i64 (j:Int)∧∃nl t,v.s 3= .slice nl t (AH ((l.take j).map Hi))∧nl=decide (j=0)∧LG 0 _ 3 v.m v.c nl t) (λj u ih v g hI=>?_) (λv g hI=>?_) 0 (Qs _) _ _ ⟨rfl,rfl,rfl,true,[],rfl,rfl,LG.start Xb⟩
 ·obtain⟨ma,f,ea⟩:=v;obtain⟨h7,h8,h9,nl,t,p,pa,hG⟩:=hI;simp only at h7 h8 h9 p hG;rw[r]at h8;refine Af PR.eq_1 ?_;have y:((j:Int)<l.length):=by omega
  have w:=nJ (j:=j);have k:=wJ (j:=j) O;have o:(strsD l)[j]?=some (.str (l[j]' O)):=by unfold strsD;rw[QF,Qc O];rfl
  have h:=dA (l[j]' O);have z:AH ((l.take (j+1)).map Hi)=AH ((l.take j).map Hi)++[.int .i64 (Hi (l[j]' O))]:=by
   rw[QH O,QX];simp[AH]
  have ra:(AH ((l.take j).map Hi)).length=j:=by simp[AH];omega
  have na:nl=true->AH ((l.take j).map Hi)=[]:=by
   grind
  generalize AH ((l.take j).map Hi)=x at p z ra na;simp only[GC,↓C2,Gy,simprocAttr,h7,h8,h9,p,y,w,Qj,o,Ae aC0 96,h];refine As.intro ⟨O,rfl,Yq⟩ ?_;rw[B0 na,←z];simp only[GC,↓C2,Gy,simprocAttr,h9,k];exact ih _ _ ⟨h7,by rw[r];exact h8,rfl,false,_,rfl,U,YN⟩
 ·obtain⟨ma,f,ea⟩:=v;obtain⟨h7,h8,h9,nl,t,p,pa,hG⟩:=hI;simp only at h7 h8 h9 p hG;rw[r]at h8;refine Af PR.eq_1 ?_;have e:decide (l.length=0)=false:=decide_eq_false YQ;rw[Zd (Qg _)]at p;rw[e]at pa;subst pa;simp only[GC,↓C2,Gy,simprocAttr,h8,h9,p,Zk]
  all_goals exact YR
def wN:List Nat:=[114,119,100,120,108,115]
def C0(c:Nat):Nat->Nat->Nat
 |0,k=>k
 |f+1,k=>if k<6∧wN.getD k 0≠c then C0 c f (k+1)else k
def PX(s:Bs):Nat->Nat->Nat->Nat->Nat×Bool
 |0,_,_,o=>(o,true)
 |f+1,p,k,o=>if p<s.length then(if C0 (GT s p) (6-k) k=6 then(0,false)else PX s f (p+1) (C0 (GT s p) (6-k) k+1) (o|||2 ^ C0 (GT s p) (6-k) k))else(o,true)
def LA(s:Bs):Nat×Bool:=PX s s.length 0 0 0
def Of(c:Nat):∀f k,k<=6->k<=C0 c f k∧C0 c f k<=6
 |0,k,h=>by unfold C0;omega
 |f+1,k,h=>by
  unfold C0;split
  ·rename_i u;have:=Of c f (k+1) O;omega
  ·omega
def VC{c d:Nat}(o:128<=c)(p:128<=d):∀f k,C0 c f k=C0 d f k
 |0,k=>rfl
 |f+1,k=>by
  have g:∀k,wN.getD k 0<128:=λk=>by
   rcases(by omega:k=0∨k=1∨k=2∨k=3∨k=4∨k=5∨6<=k)with rfl|rfl|rfl|rfl|rfl|rfl|h
   all_goals first|decide|(simp[wN,ZB,List.getElem?_eq_none (show [114,119,100,120,108,115].length<=k from h)])
  have:=g k;unfold C0;rw[VC o p f (k+1)];by_cases h:k<6
  ·rw[if_pos ⟨h,O⟩,if_pos ⟨h,O⟩]
  ·rw[if_neg (λe=>h e.1),if_neg (λe=>h e.1)]
def aIL:∀o,o<64->∀k,k<6->(o|||2 ^ k)<64:=V
def nF(s:Bs):∀f p k o,k<=6->o<64->(PX s f p k o).1<64
 |0,p,k,o,hk,h=>h
 |f+1,p,k,o,hk,h=>by
  have m:=Of (GT s p) (6-k) k hk;unfold PX;split
  ·split
   ·decide
   ·exact nF s f _ _ _ O (aIL o h _ O)
  ·exact h
def aOE(s:Bs):(LA s).1<64:=nF s _ 0 0 0 V V
def aQH:∀o,o<64->∀k,k<6->bits .or .u8 ((o:Nat):Int) ((2 ^ k:Nat):Int)=((o|||2 ^ k:Nat):Int):=V
def aTc{o k:Nat}(f:o<64)(s:k<6):AO .or (.int .u8 (o:Int)) (.int .u8 ((2 ^ k:Nat):Int))=some (.int .u8 ((o|||2 ^ k:Nat):Int)):=by
 rw[←aQH o f k s];rfl
def aOm{k:Nat}(s:k<6):AO .shl (.int .u8 1) (.int .i64 (k:Int))=some (.int .u8 ((2 ^ k:Nat):Int)):=by
 rcases(by omega:k=0∨k=1∨k=2∨k=3∨k=4∨k=5)with rfl|rfl|rfl|rfl|rfl|rfl<;>rfl
def Ss{S:Gz}{ns:Id}{r:Nat}{Q:Ex->St->Prop}:∀(f k:Nat)(v:St) g,k+f=6->(∀q,q.m=v.m->q.c≥v.c->q.s 5= .int .i64 (C0 r f k:Nat)->(∀j,j=4∨j=7∨j=9->q.s j=v.s j)->Q (.exit 2) q)->v.s 5= .int .i64 (k:Int)->v.s 7= .int .i32 (r:Int)->A9 S ns Mf Q v g
 |0,k,v,g,hf,hexit,h5,h7=>by
  refine Af Mf.eq_1 ?_;have p:((k:Int)<6)=False:=eq_false O;simp only[GC,↓C2,Gy,simprocAttr,h5,h7,p];exact hexit _ rfl Xb h5 (by rintro j (rfl|rfl|rfl)<;>rfl)
 |f+1,k,v,g,hf,hexit,h5,h7=>by
  refine Af Mf.eq_1 ?_;have ih:=Ss (S:=S) (ns:=ns) (r:=r) (Q:=Q) f (k+1);obtain⟨ma,ia,n⟩:=v;simp only at h5 h7 hexit;have p:((k:Int)<6)=True:=eq_true O;have w:(0:Int)<=(k:Int):=O
  obtain⟨c,b,i⟩:∃c:UInt8,([114,119,100,120,108,115]:List UInt8)[k]?=some c∧c.toNat=wN.getD k 0:=by
   rcases(by omega:k=0∨k=1∨k=2∨k=3∨k=4∨k=5)with rfl|rfl|rfl|rfl|rfl|rfl<;>exact⟨_,rfl,rfl⟩
  have y:=c.toNat_lt;have z:IntKind.i32.wrap (c.toNat:Int)=(c.toNat:Int):=aP0 O O;have e2:IntKind.i64.wrap ((k:Int)+1)=((k+1:Nat):Int):=Xi
  unfold C0 at hexit;rw[←i]at hexit;by_cases h:c.toNat=r
  ·rw[if_neg (λe=>e.2 h)]at hexit;have a1:((c.toNat:Int)=(r:Int))=True:=eq_true O;simp only[GC,↓C2,Gy,simprocAttr,h5,h7,p,w,b,z,a1,Qj];exact hexit _ rfl Xb h5 (by rintro j (rfl|rfl|rfl)<;>rfl)
  ·rw[if_pos ⟨O,h⟩]at hexit;have a1:((c.toNat:Int)=(r:Int))=False:=eq_false O;simp only[GC,↓C2,Gy,simprocAttr,h5,h7,p,w,b,z,e2,a1,Qj];exact ih _ _ O (λq t o a u=>hexit q t (by simp only at o;omega) a (λj x=>(u j x).trans (by rcases x with rfl|rfl|rfl<;>rfl))) rfl h7
def zM{S:Gz}{ns i:Id}{s:Bs}{Q:Ex->St->Prop}{e:Nat×Bool}(pa:∀v,e=(0,false)->v.s 2= .int .u8 0->v.s 3= .bool false->Q .ret v)(c:∀v,e.2=true->v.s 4= .int .u8 (e.1:Int)->Q (.exit 0) v):
  ∀(f p k o:Nat)(v:St) g,s.length<=p+f->k<=6->o<64->PX s f p k o=e->v.s 9= .itp i->v.s 4= .int .u8 (o:Int)->v.s 5= .int .i64 (k:Int)->v.m i 1=some (.it s p)->A9 S ns Me Q v g:=by
 intro f;induction f with
 |zero=>
  intro p k o v g hf x ho n h9 h4 h5 t;refine Af Me.eq_1 ?_;have:¬(p<s.length):=O
  simp only[↓C2,GD,GN,simprocAttr,t,h9,this];unfold PX at n;subst n;exact c _ rfl h4
 |succ f ih=>
  intro p k o v g hf x ho n h9 h4 h5 t;refine Af Me.eq_1 ?_;obtain⟨ma,ia,ea⟩:=v;simp only at h9 h4 h5 t;unfold PX at n;by_cases w:p<s.length
  ·rw[if_pos w]at n;have hb:=Of (GT s p) (6-k) k x;simp only[↓C2,GD,GN,simprocAttr,t,h9,w];have b:C0 (Utf8.decode ⟨s.toArray⟩ p).1 (6-k) k=C0 (GT s p) (6-k) k:=by
    rcases Um s p with ⟨d1,d2⟩|⟨d1,d2⟩
    ·rw[d2]
    ·exact VC d2 d1 _ _
   refine Ss (r:=(Utf8.decode ⟨s.toArray⟩ p).1) (6-k) k _ _ O (λga z j a hj=>?_) h5 rfl;rw[b]at a;generalize hq:C0 (GT s p) (6-k) k=q at *;have j4:=(hj 4 (.inl rfl)).trans h4;have j9:=(hj 9 (.inr (.inr rfl))).trans h9;by_cases h6:q=6
   ·subst h6;rw[if_pos rfl]at n;have a:ga.s 5= .int .i64 6:=a;simp only[GC,↓C2,Gy,simprocAttr,a];exact pa _ n.symm rfl rfl
   ·rw[if_neg h6]at n;have hp:p<s.length:=w;have hw:(Utf8.decode ⟨s.toArray⟩ p).2=1:=by
     rcases Um s p with ⟨d1,d2⟩|⟨d1,d2⟩
     ·rw[d2]
     ·exfalso;have:∀f k,k<=6->k+f=6->C0 (GT s p) f k=6:=by
       intro f;induction f with
       |zero=>intro k _ h;unfold C0;omega
       |succ f ih=>
        intro k u y;unfold C0;have:wN.getD k 0<128:=by
         rcases(by omega:k=0∨k=1∨k=2∨k=3∨k=4∨k=5)with rfl|rfl|rfl|rfl|rfl|rfl<;>decide
        rw[if_pos ⟨O,O⟩];exact ih (k+1) O O
      exact h6 (hq.symm.trans (this (6-k) k x O))
    have a1:((q:Int)=6)=False:=eq_false O;have e1:=aOm (k:=q) O;have e2:=aTc (o:=o) (k:=q) ho O;have e3:IntKind.i64.wrap ((q:Int)+1)=((q+1:Nat):Int):=Xi
    simp only[GC,↓C2,Gy,simprocAttr,a,j4,a1,e1,e2,e3];refine ih (p+1) (q+1) (o|||2 ^ q) _ _ O O (aIL o ho q O) n j9 rfl rfl ?_;show ga.m i 1=_;rw[z];show ia.put i 1 [.it s (p+(Utf8.decode ⟨s.toArray⟩ p).2)] i 1=_;rw[DY,if_pos ⟨rfl,rfl⟩,hw]
  ·rw[if_neg w]at n;simp only[↓C2,GD,GN,simprocAttr,t,h9,w];subst n;exact c _ rfl h4
def aUj:=Aq []
def aDe:=RF aUj aBu [.t 2,.t 3] 33
def aND:Kq aDe 167:=An (Aj func167) Ad
def aDd(s:Bs):aDe [.str s]=some (.tup [.int .u8 ((LA s).1:Nat),.bool (LA s).2]):=by
 refine Al (Qa rfl) ?_;unfold aBu;simp only[GC,↓C2,Gy,simprocAttr];refine zM (s:=s) (e:=LA s) (λv z y p=>?_) (λv z n=>?_) s.length 0 0 0 _ _ O V V rfl rfl rfl rfl rfl
 ·rw[z];simp only[GC,↓C2,Gy,simprocAttr,y,p]
  all_goals exact YR
 ·rw[z];simp only[GC,↓C2,Gy,simprocAttr,n]
  all_goals exact YR
def FI{q:UInt8}:∀(s:Bs),∀x∈splitC q s,x.length<=s.length
 |[],x,h=>by simp only[splitC,Qn]at h;subst h;exact Qg _
 |c::r,x,h=>by
  have ih:=FI (q:=q) r;unfold splitC at h;split at h
  ·rcases Qq.1 h with rfl|h
   ·exact Qs _
   ·have:=ih x h;simp only[Qb];omega
  ·cases hs:splitC q r with
   |nil=>
    rw[hs]at h;simp only[Qn]at h;subst h;simp
   |cons y t=>
    rw[hs]at h ih;simp only[Qq]at h;rcases h with rfl|h
    ·have:=ih y Qy;simp only[Qb];omega
    ·have:=ih x (Qv _ h);simp only[Qb];omega
def mW(x:Bs)(c:UInt8):(Bv x c).1.length<=x.length:=by
 unfold Bv;split
 ·exact Qg _
 ·exact List.length_take_le' _ _
def H7(x:Bs):Bool:=(Bv x 58).2.2&&(LA (Bv x 58).2.1).2
def N2(x:Bs):Rl:=((Bv x 58).1,((LA (Bv x 58).2.1).1:Int))
def Eo(s:Bs):Bool×List Rl×Int:=
 if s=[]then(true,[],0)else if(splitC 44 s).all H7=false then(true,[],4)else if B3 ((splitC 44 s).map N2)≠0 then(true,[],B3 ((splitC 44 s).map N2))else(false,(splitC 44 s).map N2,0)
def Lb:=Aq [(42,Ac DJ),(166,Ac aHb),(167,Ac aDe),(168,Ac uS)]
def aDm:=RF Lb aBA [.t 2,.t 3] 52
def aNI:Kq aDm 100:=An (Aj func100) (Aa aFC (Aa aI5 (Aa aND (Aa V0 Ad))))
def aDl(s:Bs)(hl:s.length<=1000):aDm [.str s]=some (.tup [.slice (Eo s).1 [] (Ar (Eo s).2.1),.int .i64 (Eo s).2.2]):=by
 refine Al (Qa rfl) ?_;unfold aBA;unfold Eo;by_cases h0:s=[]
 ·subst h0;rw[if_pos rfl];simp only[GC,↓C2,Gy,simprocAttr]
  all_goals exact YR
 rw[if_neg h0];have wa:(s=[])=False:=eq_false h0;have i:=Nx (s:=s) (q:=44) O;have va:=CB (q:=44) s;have fa:=Dd (q:=44) s;have xa:=FI (q:=44) s;generalize splitC 44 s=l at *;have w:((strsD l).length:Int)=(l.length:Int):=by rw[AM]
 simp only[GC,↓C2,Gy,simprocAttr,wa,Ae Lb 42,i,w];refine BI (n:=l.length) (I:=λj v=>v.s 16= .slice false [] (strsD l)∧v.s 17= .int .i64 ((strsD l).length:Int)∧v.s 18= .int .i64 (j:Int)∧(l.take j).all H7=true∧∃nl t,v.s 4= .slice nl t (Ar ((l.take j).map N2))∧nl=decide (j=0)∧LG 0 _ 174 v.m v.c nl t) (λj hj ih v g hI=>?_) (λv g hI=>?_) 0 (Qs _) _ _ ⟨rfl,rfl,rfl,rfl,true,[],rfl,rfl,LG.start Xb⟩
 ·obtain⟨ma,ia,ea⟩:=v;obtain⟨ua,ta,la,ja,nl,t,h4,pa,hG⟩:=hI;simp only at ua ta la h4 hG;rw[w]at ta;refine Af PQ.eq_1 ?_;have y:((j:Int)<l.length):=by omega
  have oa:=nJ (j:=j);have hw:=wJ (j:=j) O;have ka:(strsD l)[j]?=some (.str (l[j]' O)):=by unfold strsD;rw[QF,Qc O];rfl
  have ya:=xa _ (QD (l:=l) (n:=j) O);have ga:(l[j]' O)∈l:=QD _;have z:Ar ((l.take (j+1)).map N2)=Ar ((l.take j).map N2)++[.agg [.str (N2 (l[j]' O)).1,.int .u8 (N2 (l[j]' O)).2]]:=by
   rw[QH O,QX];simp[Ar,rlD]
  have u:(l.take (j+1)).all H7=H7 (l[j]' O):=by
   rw[QH O,List.all_append,ja];simp
  have ra:(Ar ((l.take j).map N2)).length=j:=by simp[Ar];omega
  have na:nl=true->Ar ((l.take j).map N2)=[]:=by
   grind
  generalize Ar ((l.take j).map N2)=ca at h4 z ra na;generalize (l[j]' O)=x at *;have d:=nR x 58 O;have h:=aDd (Bv x 58).2.1;by_cases c1:(Bv x 58).2.2=true
  ·by_cases c2:(LA (Bv x 58).2.1).2=true
   ·rw[c1]at d;rw[c2]at h;have o:H7 x=true:=by unfold H7;rw[c1,c2];rfl
    have k:(N2 x).1=(Bv x 58).1:=rfl;have p:(N2 x).2=((LA (Bv x 58).2.1).1:Int):=rfl;rw[k,p]at z;simp only[GC,↓C2,Gy,simprocAttr,ua,ta,la,h4,y,oa,Qj,ka,Ae Lb 166,d,Ae Lb 167,h];refine As.intro ⟨O,rfl,Yq⟩ ?_;rw[B0 na,←z];simp only[GC,↓C2,Gy,simprocAttr,la,hw];exact ih _ _ ⟨ua,by rw[w];exact ta,rfl,by rw[u];exact o,false,_,rfl,U,YN⟩
   ·have o:H7 x=false:=by unfold H7;rw[c1];simpa using c2
    have c2:(LA (Bv x 58).2.1).2=false:=by simpa using c2
    rw[c1]at d;rw[c2]at h;have hA:l.all H7=false:=by
     rw[Zq];exact⟨x,ga,by rw[o];decide⟩
    rw[if_pos hA];simp only[GC,↓C2,Gy,simprocAttr,ua,ta,la,h4,y,oa,Qj,ka,Ae Lb 166,d,Ae Lb 167,h]
    all_goals exact YR
  ·have c1:(Bv x 58).2.2=false:=by simpa using c1
   have o:H7 x=false:=by unfold H7;rw[c1];rfl
   rw[c1]at d;have hA:l.all H7=false:=by
    rw[Zq];exact⟨x,ga,by rw[o];decide⟩
   rw[if_pos hA];simp only[GC,↓C2,Gy,simprocAttr,ua,ta,la,h4,y,oa,Qj,ka,Ae Lb 166,d,Ae Lb 167,h]
   all_goals exact YR
 ·obtain⟨ma,ia,ea⟩:=v;obtain⟨ua,ta,la,ja,nl,t,h4,pa,hG⟩:=hI;simp only at ua ta la h4 hG;rw[w]at ta;refine Af PQ.eq_1 ?_;have e:decide (l.length=0)=false:=decide_eq_false YQ;rw[Zd (Qg _)]at h4 ja;rw[e]at pa;subst pa;have hA:¬l.all H7=false:=by rw[ja];decide
  rw[if_neg hA];have f:=Rn (nl:=false) (l:=l.map N2) (by rw[Qu];omega) (λr hr=>by
   obtain⟨x,hx,rfl⟩:=QQ.1 hr;have:=xa x hx;have:=mW x 58;exact⟨by show(Bv x 58).1.length<=1000;omega,YC⟩)
  by_cases hp:B3 (l.map N2)≠0
  ·rw[if_pos hp];have qa:(B3 (l.map N2)=0)=False:=eq_false hp;simp only[GC,↓C2,Gy,simprocAttr,ta,la,h4,Zk,Ae Lb 168,f,qa]
   all_goals exact YR
  ·rw[if_neg hp];have hp:=Decidable.not_not.1 hp;rw[hp]at f;simp only[GC,↓C2,Gy,simprocAttr,ta,la,h4,Zk,Ae Lb 168,f]
   all_goals exact YR
def A8(a:Ak)(c:Int)(s:Bs):Ak×Int:=
 if c=116 then({a with tk:=s},Bb {a with tk:=s} 116)
 else if c=112 then({a with pa:=s},Bb {a with pa:=s} 112)
 else if c=109 then({a with ot:=s},Bb {a with ot:=s} 109)
 else if c=113 then({a with ot:=s},Bb {a with ot:=s} 113)
 else if c=110 then({a with n:=Hi s},Bb {a with n:=Hi s} 110)
 else if c=99 then({a with cas:=if s=[45]then-1 else Hi s},BD (decide (s=[45])||decide (0<=Hi s)))
 else if c=102 then({a with fl:=decide (s=[49])},BD (decide (s=[49])||decide (s=[48])))
 else if c=108 then(if s=[45]then(a,Bb a 108)else({a with nln:=false,ns:=(splitC 44 s).map Hi},Bb {a with nln:=false,ns:=(splitC 44 s).map Hi} 108))
 else if c=100 then(if s=[45]then(a,0)else({a with da:=(Cz s).getD []},BD ((Cz s).isSome&&decide (s≠[]))))
 else if c=114 then(if s=[45]then(a,0)else if s=[]then(a,4)else({a with nlr:=(Eo s).1,rs:=(Eo s).2.1},(Eo s).2.2))
 else if c=107 then({a with key:=(Cz s).getD []},BD ((Cz s).isSome&&decide ((((Cz s).getD []).length:Int)=16)))
 else(a,Bb a c)
def xV(s:Bs)(i:s.length<=400):(Eo s).2.1.length<=401∧∀r∈(Eo s).2.1,r.1.length<=400∧0<=r.2∧r.2<256:=by
 unfold Eo;split
 ·exact⟨Qs _,λr h=>Xd⟩
 split
 ·exact⟨Qs _,λr h=>Xd⟩
 split
 ·exact⟨Qs _,λr h=>Xd⟩
 ·refine⟨by simp only[Qu];have:=CB (q:=44) s;omega,λr h=>?_⟩;obtain⟨x,p,rfl⟩:=QQ.1 h;have:=FI s x p;have:=mW x 58;have:=aOE (Bv x 58).2.1;exact⟨by show(Bv x 58).1.length<=400;omega,YC,by show((LA (Bv x 58).2.1).1:Int)<256;omega⟩
def kE:∀(n:Nat)(s x:Bs),s.length<=n->Cz s=some x->x.length<=s.length
 |0,s,x,h,e=>by
  match s,h with
  |[],_=>cases e;exact Qg _
 |n+1,s,x,h,e=>by
  match s,h,e with
  |[],_,e=>cases e;exact Qg _
  |[_],_,e=>cases e
  |a::b::r,h,e=>
   rw[LK]at e;split at e
   ·cases e
   ·obtain⟨y,o,rfl⟩:=QY.1 e;have:=kE n r y Yb o;simp only[Qb];omega
def vW(s:Bs):((Cz s).getD []).length<=s.length:=by
 cases h:Cz s with
 |none=>exact Qs _
 |some x=>exact kE _ s x (Qg _) h
def TA{a:Ak}(j:Hb a){c:Int}{s:Bs}(i:s.length<=400):Hb (A8 a c s).1:=by
 have u:=vW s;have y:=xV s i;have p:=CB (q:=44) s;unfold A8;by_cases w:c=116
 ·rw[if_pos w];exact⟨j.op0,j.op,Xb,j.pa,j.ot,j.ns,j.da,j.rl,j.rs,j.key⟩
 rw[if_neg w];by_cases c1:c=112
 ·rw[if_pos c1];exact⟨j.op0,j.op,j.tk,Xb,j.ot,j.ns,j.da,j.rl,j.rs,j.key⟩
 rw[if_neg c1];by_cases v:c=109
 ·rw[if_pos v];exact⟨j.op0,j.op,j.tk,j.pa,Xb,j.ns,j.da,j.rl,j.rs,j.key⟩
 rw[if_neg v];by_cases o:c=113
 ·rw[if_pos o];exact⟨j.op0,j.op,j.tk,j.pa,Xb,j.ns,j.da,j.rl,j.rs,j.key⟩
 rw[if_neg o];by_cases x:c=110
 ·rw[if_pos x];exact⟨j.op0,j.op,j.tk,j.pa,j.ot,j.ns,j.da,j.rl,j.rs,j.key⟩
 rw[if_neg x];by_cases k:c=99
 ·rw[if_pos k];exact⟨j.op0,j.op,j.tk,j.pa,j.ot,j.ns,j.da,j.rl,j.rs,j.key⟩
 rw[if_neg k];by_cases t:c=102
 ·rw[if_pos t];exact⟨j.op0,j.op,j.tk,j.pa,j.ot,j.ns,j.da,j.rl,j.rs,j.key⟩
 rw[if_neg t];by_cases g:c=108
 ·rw[if_pos g];by_cases e:s=[45]
  ·rw[if_pos e];exact j
  ·rw[if_neg e];exact⟨j.op0,j.op,j.tk,j.pa,j.ot,by simp only[Qu];omega,j.da,j.rl,j.rs,j.key⟩
 rw[if_neg g];by_cases b:c=100
 ·rw[if_pos b];by_cases e:s=[45]
  ·rw[if_pos e];exact j
  ·rw[if_neg e];exact⟨j.op0,j.op,j.tk,j.pa,j.ot,j.ns,Xb,j.rl,j.rs,j.key⟩
 rw[if_neg b];by_cases z:c=114
 ·rw[if_pos z];by_cases e:s=[45]
  ·rw[if_pos e];exact j
  rw[if_neg e];by_cases m:s=[]
  ·rw[if_pos m];exact j
  ·rw[if_neg m];exact⟨j.op0,j.op,j.tk,j.pa,j.ot,j.ns,j.da,Xb,λr n=>⟨by have:=y.2 r n;omega,(y.2 r n).2.1⟩,j.key⟩
 rw[if_neg z];by_cases f:c=107
 ·rw[if_pos f];exact⟨j.op0,j.op,j.tk,j.pa,j.ot,j.ns,j.da,j.rl,j.rs,Xb⟩
 rw[if_neg f];exact j
def B1:Gz:=Aq [(96,Ac oG),(97,Ac aPM),(98,Ac aDo),(99,Ac aPv),(100,Ac aDm),(101,Ac aEp)]
def dD:List D->Option D:=RF B1 aBP [.cell (some 11) 6,.t 7] 122
def aNX:Kq dD 45:=An (Aj func45) (Aa aAi (Aa aIS (Aa aNJ (Aa aSC (Aa aNI (Aa aIY Ad))))))
def aDF(a:Ak)(t:Hb a)(c:Int)(s:Bs)(r:s.length<=400):dD [GW a,.int .i32 c,.str s]=some (.tup [GW (A8 a c s).1,.int .i64 (A8 a c s).2]):=by
 refine Al (Qa rfl) ?_;unfold aBP;have h:=dA s;have z:=aDn s O;have q:=aC3 s O;have g:=aDl s O;have w:=TA t (c:=c) r;unfold A8 at w ⊢;by_cases c1:c=116
 ·subst c1;simp only[reduceIte,QC]at w ⊢;have d:=Hf (c:=116) w;unfold GW GV at d ⊢;simp only[GC,↓C2,Gy,simprocAttr,Ae B1 101,d]
  (refine As.intro (Am ?_) ?_;first|rfl|simp[AR,AB,GS,Ai,Ac])
  simp only[GC,↓C2,Gy,simprocAttr]
  all_goals exact YR
 have n1:(c=116)=False:=eq_false c1;by_cases p:c=112
 ·subst p;simp only[reduceIte,QC]at w ⊢;have d:=Hf (c:=112) w;unfold GW GV at d ⊢;simp only[GC,↓C2,Gy,simprocAttr,Ae B1 101,d]
  (refine As.intro (Am ?_) ?_;first|rfl|simp[AR,AB,GS,Ai,Ac])
  simp only[GC,↓C2,Gy,simprocAttr]
  all_goals exact YR
 have n2:(c=112)=False:=eq_false p;by_cases o:c=109
 ·subst o;simp only[reduceIte,QC]at w ⊢;have d:=Hf (c:=109) w;unfold GW GV at d ⊢;simp only[GC,↓C2,Gy,simprocAttr,Ae B1 101,d]
  (refine As.intro (Am ?_) ?_;first|rfl|simp[AR,AB,GS,Ai,Ac])
  simp only[GC,↓C2,Gy,simprocAttr]
  all_goals exact YR
 have n3:(c=109)=False:=eq_false o;by_cases u:c=113
 ·subst u;simp only[reduceIte,QC]at w ⊢;have d:=Hf (c:=113) w;unfold GW GV at d ⊢;simp only[GC,↓C2,Gy,simprocAttr,Ae B1 101,d]
  (refine As.intro (Am ?_) ?_;first|rfl|simp[AR,AB,GS,Ai,Ac])
  simp only[GC,↓C2,Gy,simprocAttr]
  all_goals exact YR
 have n4:(c=113)=False:=eq_false u;by_cases c5:c=110
 ·subst c5;simp only[reduceIte,QC]at w ⊢;have d:=Hf (c:=110) w;unfold GW GV at d ⊢;simp only[GC,↓C2,Gy,simprocAttr,Ae B1 96,h,Ae B1 101,d]
  (refine As.intro (Am ?_) ?_;first|rfl|simp[AR,AB,GS,Ai,Ac])
  simp only[GC,↓C2,Gy,simprocAttr]
  all_goals exact YR
 have n5:(c=110)=False:=eq_false c5;by_cases c6:c=99
 ·subst c6;simp only[reduceIte,QC]at w ⊢;have b:=Hd;unfold GW GV;have l:((0:Int)<=-1)=False:=eq_false V;by_cases e:s=[45]
  ·have x:(s=[45])=True:=eq_true e;rw[if_pos e,decide_eq_true e];simp only[GC,↓C2,Gy,simprocAttr,Ae B1 96,h,x,Ae B1 97,b]
   (refine As.intro (Am ?_) ?_;first|rfl|simp[AR,AB,GS,Ai,Ac])
   simp only[GC,↓C2,Gy,simprocAttr]
   all_goals exact YR
  ·have x:(s=[45])=False:=eq_false e;rw[if_neg e,decide_eq_false e];simp only[GC,↓C2,Gy,simprocAttr,Ae B1 96,h,x,Ae B1 97,b]
   (refine As.intro (Am ?_) ?_;first|rfl|simp[AR,AB,GS,Ai,Ac])
   simp only[GC,↓C2,Gy,simprocAttr]
   all_goals exact YR
 have n6:(c=99)=False:=eq_false c6;by_cases c7:c=102
 ·subst c7;simp only[reduceIte,QC]at w ⊢;have b:=Hd;unfold GW GV;by_cases e:s=[49]
  ·have x:(s=[49])=True:=eq_true e;rw[decide_eq_true e];simp only[GC,↓C2,Gy,simprocAttr,x,Ae B1 97,b]
   (refine As.intro (Am ?_) ?_;first|rfl|simp[AR,AB,GS,Ai,Ac])
   simp only[GC,↓C2,Gy,simprocAttr]
   all_goals exact YR
  ·have x:(s=[49])=False:=eq_false e;rw[decide_eq_false e];simp only[GC,↓C2,Gy,simprocAttr,x,Ae B1 97,b]
   (refine As.intro (Am ?_) ?_;first|rfl|simp[AR,AB,GS,Ai,Ac])
   simp only[GC,↓C2,Gy,simprocAttr]
   all_goals exact YR
 have n7:(c=102)=False:=eq_false c7;by_cases c8:c=108
 ·subst c8;simp only[reduceIte,QC]at w ⊢;by_cases e:s=[45]
  ·have x:(s=[45])=True:=eq_true e;rw[if_pos e]at w ⊢;have d:=Hf (c:=108) t;unfold GW GV at d ⊢;simp only[GC,↓C2,Gy,simprocAttr,x,Ae B1 101,d]
   (refine As.intro (Am ?_) ?_;first|rfl|simp[AR,AB,GS,Ai,Ac])
   simp only[GC,↓C2,Gy,simprocAttr]
   all_goals exact YR
  ·have x:(s=[45])=False:=eq_false e;rw[if_neg e]at w ⊢;have d:=Hf (c:=108) w;unfold GW GV at d ⊢;simp only[GC,↓C2,Gy,simprocAttr,x,Ae B1 98,z,Ae B1 101,d]
   (refine As.intro (Am ?_) ?_;first|rfl|simp[AR,AB,GS,Ai,Ac])
   simp only[GC,↓C2,Gy,simprocAttr]
   all_goals exact YR
 have n8:(c=108)=False:=eq_false c8;by_cases c9:c=100
 ·subst c9;simp only[reduceIte,QC]at w ⊢;have b:=Hd;by_cases e:s=[45]
  ·have x:(s=[45])=True:=eq_true e;have n:(s=[])=False:=eq_false (by rw[e];decide);have v:BD true=0:=rfl;rw[if_pos e]at w ⊢;unfold GW GV;simp only[GC,↓C2,Gy,simprocAttr,x,n,Ae B1 97,b,v]
   (refine As.intro (Am ?_) ?_;first|rfl|simp[AR,AB,GS,Ai,Ac])
   simp only[GC,↓C2,Gy,simprocAttr]
   all_goals exact YR
  ·have x:(s=[45])=False:=eq_false e;rw[if_neg e]at w ⊢;unfold GW GV;cases hu:(Cz s).isSome with
   |true=>
    rw[hu]at q;simp only[GC,↓C2,Gy,simprocAttr,x,Ae B1 99,q,Ae B1 97,b]
    (refine As.intro (Am ?_) ?_;first|rfl|simp[AR,AB,GS,Ai,Ac])
    simp only[GC,↓C2,Gy,simprocAttr]
    all_goals exact YR
   |false=>
    rw[hu]at q;simp only[GC,↓C2,Gy,simprocAttr,x,Ae B1 99,q,Ae B1 97,b]
    (refine As.intro (Am ?_) ?_;first|rfl|simp[AR,AB,GS,Ai,Ac])
    simp only[GC,↓C2,Gy,simprocAttr]
    all_goals exact YR
 have n9:(c=100)=False:=eq_false c9;by_cases f:c=114
 ·subst f;simp only[reduceIte,QC]at w ⊢;by_cases e:s=[45]
  ·have x:(s=[45])=True:=eq_true e;rw[if_pos e];unfold GW GV;simp only[GC,↓C2,Gy,simprocAttr,x]
   all_goals exact YR
  have x:(s=[45])=False:=eq_false e;rw[if_neg e];by_cases m:s=[]
  ·have i:(s=[])=True:=eq_true m;rw[if_pos m];unfold GW GV;simp only[GC,↓C2,Gy,simprocAttr,x,i,Ae B1 100,g]
   all_goals exact YR
  ·have i:(s=[])=False:=eq_false m;rw[if_neg m];unfold GW GV;simp only[GC,↓C2,Gy,simprocAttr,x,i,Ae B1 100,g]
   all_goals exact YR
 have k:(c=114)=False:=eq_false f;by_cases j:c=107
 ·subst j;simp only[reduceIte,QC]at w ⊢;have b:=Hd;unfold GW GV;cases hu:(Cz s).isSome with
  |true=>
   rw[hu]at q;simp only[GC,↓C2,Gy,simprocAttr,Ae B1 99,q,Ae B1 97,b]
   (refine As.intro (Am ?_) ?_;first|rfl|simp[AR,AB,GS,Ai,Ac])
   simp only[GC,↓C2,Gy,simprocAttr]
   all_goals exact YR
  |false=>
   rw[hu]at q;simp only[GC,↓C2,Gy,simprocAttr,Ae B1 99,q,Ae B1 97,b]
   (refine As.intro (Am ?_) ?_;first|rfl|simp[AR,AB,GS,Ai,Ac])
   simp only[GC,↓C2,Gy,simprocAttr]
   all_goals exact YR
 have y:(c=107)=False:=eq_false j;simp only[c1,p,o,u,c5,c6,c7,c8,c9,f,j,if_false]at w ⊢;have d:=Hf (c:=c) t;unfold GW GV at d ⊢;simp only[GC,↓C2,Gy,simprocAttr,n1,n2,n3,n4,n5,n6,n7,n8,n9,k,y,Ae B1 101,d]
 (refine As.intro (Am ?_) ?_;first|rfl|simp[AR,AB,GS,Ai,Ac])
 simp only[GC,↓C2,Gy,simprocAttr]
 all_goals exact YR
def akZ:Ak:=⟨0,[],[],[],0,0,false,true,[],[],true,[],[]⟩
def AG:Ak->Bs->List Bs->Ak×Int
 |a,[],_=>(a,0)
 |a,_::_,[]=>(akZ,4)
 |a,c::r,w::ws=>if(A8 a (c.toNat:Int) w).2≠0 then(akZ,(A8 a (c.toNat:Int) w).2)else AG (A8 a (c.toNat:Int) w).1 r ws
def Cd(s:Bs):Ak×Int:=
 if 400<s.length then(akZ,5)
 else if fC ((splitC 32 s).getD 0 [])=0 then(akZ,22)
 else if(splitC 32 s).length≠1+(Bj (fC ((splitC 32 s).getD 0 []))).length then(akZ,4)
 else AG {akZ with op:=fC ((splitC 32 s).getD 0 [])} (Bj (fC ((splitC 32 s).getD 0 []))) ((splitC 32 s).drop 1)
def zO{S:Gz}(k:S 45=some (Ac dD)){ls:Bs}(o:∀c∈ls,c.toNat<128)(va:ls.length<=100){ws:List Bs}(ra:∀w∈ws,w.length<=400)(hl:ws.length=1+ls.length){r:Ak×Int}{Q:Ex->St->Prop}
  (pa:∀v,r.2≠0->r.1=akZ->v.s 3= .int .i64 r.2->v.s 2= .ptr [0] 0->Ag v.m [0] 0 11=some (GV akZ)->Q .ret v)
  (fa:∀v,r.2=0->v.s 2= .ptr [0] 0->v.s 5= .ptr [13] 0->Ag v.m [0] 0 11=some (GV akZ)->Ag v.m [13] 0 11=some (GV r.1)->Q (.exit 0) v):
  ∀(f p:Nat)(b:Ak) v g,ls.length=p+f->AG b (ls.drop p) (ws.drop (p+1))=r->Hb b->v.s 2= .ptr [0] 0->v.s 5= .ptr [13] 0->v.s 37= .itp [30]->v.s 4= .slice false [] (strsD ws)->Ag v.m [0] 0 11=some (GV akZ)->Ag v.m [13] 0 11=some (GV b)->v.m [30] 1=some (.it ls p)->
   A9 S [] Mq Q v g:=by
 have oa:([0]:Id)≠[30]:=V
 have l:([13]:Id)≠[30]:=V
 have n:([0]:Id)≠[13]:=V
 intro f;induction f with
 |zero=>
  intro p b v g hf hr hb x h5 a h4 hm na ba;refine Af Mq.eq_1 ?_;have hp:¬(p<ls.length):=O
  simp only[↓C2,GD,simprocAttr,a,hp,ba,Qo];rw[List.drop_of_length_le O]at hr;simp only[AG]at hr;subst hr;exact fa _ rfl x h5 hm na
 |succ f ih=>
  intro p b v g hf hr hb x h5 a h4 hm na ba;refine Af Mq.eq_1 ?_;have hp:p<ls.length:=O
  have ka:ls[p]?=some ls[p]:=Qc hp;have u:ls[p]∈ls:=QD hp;have i:=Nr ka (o _ u);have j:p+1<ws.length:=O
  have t:ws[p+1]∈ws:=QD j;have ta:=ra _ t;have d:(strsD ws)[p+1]?=some (.str ws[p+1]):=by unfold strsD;rw[QF,Qc j];rfl
  have hR:=aDF b hb (ls[p].toNat:Int) ws[p+1] ta;have da:=TA hb (c:=(ls[p].toNat:Int)) ta;have sa:ls.drop p=ls[p]::ls.drop (p+1):=QB hp;have q:ws.drop (p+1)=ws[p+1]::ws.drop (p+1+1):=QB j;have e1:IntKind.i64.wrap (1+(p:Int))=((p+1:Nat):Int):=Xi
  have e2:(0:Int)<=((p+1:Nat):Int):=O
  rw[sa,q]at hr;unfold AG at hr;generalize ls[p]=c at *;generalize ws[p+1]=w at *;unfold GW at hR;generalize A8 b (c.toNat:Int) w=z at *;obtain⟨b',e⟩:=z;simp only at hr hR da;obtain⟨ma,ia,ea⟩:=v;simp only at x h5 a h4 hm na ba;by_cases he:e=0
  ·subst he;rw[if_neg (λh=>h rfl)]at hr;simp only[↓C2,GA,simprocAttr,x,h5,a,h4,hm,na,i,Ay oa,Ay l,Ab k,hR,BK,BL,AN,AT,hp,ba,d,e1,e2,Qj,and_self,Qo,QG,Qk]
   (refine As.intro (Am ?_) ?_;first|rfl|simp[AR,AB,GS,Ai,Ac])
   simp only[↓C2,GA,simprocAttr,x,h5,a,h4,hm,na,BK,BL,AN,AT];refine ih (p+1) _ _ _ O hr da x h5 a h4 ?_ ?_ ?_
   ·show Ag ((ia.put [30] 1 [.it ls (p+(Utf8.decode ⟨ls.toArray⟩ p).2)]).put [13] 0 (GV b')) [0] 0 11=_;rw[Ay n,Ay oa];exact hm
   ·exact Ax (AT _)
   ·show GB.put (GB.put ia [30] 1 [.it ls (p+(Utf8.decode ⟨ls.toArray⟩ p).2)]) [13] 0 (GV b') [30] 1=_;rw[aA V,i];exact LW
  ·rw[if_pos he]at hr;have y:(e=0)=False:=eq_false he;have hf:∀zs:List D,Cf zs []=some zs:=λ_=>rfl
   have zc:(D.agg [.int .u8 0,.str [],.str [],.str [],.int .i64 0,.int .i64 0,.bool false,.slice true [] [],.str [],.slice true [] [],.str []]).cells=GV akZ:=rfl;simp only[↓C2,GA,simprocAttr,x,h5,a,h4,hm,na,i,Ay oa,Ay l,Ay n,Ab k,hR,BK,BL,AN,AT,hp,ba,d,e1,e2,Qj,and_self,Qo,QG,Qk,y,hf,zc]
   (refine As.intro (Am ?_) ?_;first|rfl|simp[AR,AB,GS,Ai,Ac])
   simp only[↓C2,GA,simprocAttr,x,h5,a,h4,hm,na,Ay oa,Ay l,Ay n,BK,BL,AN,AT,y,hf,zc,Qk,and_self];subst hr;refine pa _ he rfl ?_ ?_ ?_
   ·rfl
   ·exact x
   ·exact Ax (ds:=GV akZ) rfl
def aAS:∀op:Fin 19,∀c∈Bj ((op.val:Nat):Int),c.toNat<128:=Xj
def aAQ:∀op:Fin 19,(Bj ((op.val:Nat):Int)).length<=10:=Xj
def aAR{op:Int}(f:0<=op)(h:op<=18):(∀c∈Bj op,c.toNat<128)∧(Bj op).length<=10:=by
 have e:((⟨op.toNat,O⟩:Fin 19).val:Int)=op:=Q2 f;have u:=aAS ⟨op.toNat,O⟩;have y:=aAQ ⟨op.toNat,O⟩;rw[e]at u y;exact⟨u,y⟩
def aCC{op:Int}(f:0<=op)(h:op<=18):Hb {akZ with op:=op}:=⟨f,Xb,Qs _,Qs _,Qs _,Qs _,Qs _,Qs _,(λr n=>by cases n),Qs _⟩
def Lc:=Aq [(42,Ac DJ),(43,Ac aDH),(44,Ac uI),(45,Ac dD)]
def S4:=RF Lc aBZ [.cell (some 11) 2,.t 3] 58
def aAo:Kq S4 15:=An (Aj func15) (Aa aFC (Aa aNY (Aa lJ (Aa aNX Ad))))
def Rj(s:Bs)(hl:s.length<=1000000):S4 [.str s]=some (.tup [GW (Cd s).1,.int .i64 (Cd s).2]):=by
 refine Al (Qa rfl) ?_;have c:Lc 45=some (Ac dD):=rfl;unfold aBZ;have hz:D.cells (.agg (GV akZ))=GV akZ:=rfl;unfold Cd GW;by_cases h4:400<s.length
 ·rw[if_pos h4];have k:((400:Int)<(s.length:Int))=True:=eq_true O;simp only[GC,↓C2,Gy,reduceIte,Qz,Qx,Ze,Q_,QJ,reduceCtorEq,QC,Q3,Zf,Q4,k]
  all_goals exact YR
 rw[if_neg h4];have k:((400:Int)<(s.length:Int))=False:=eq_false O;have i:=Nx (s:=s) (q:=32) O;have fa:=Dd (q:=32) s;have xa:=FI (q:=32) s;have va:=CB (q:=32) s;generalize splitC 32 s=ws at *;obtain⟨w0,wr,rfl⟩:∃a b,ws=a::b:=by cases ws with|nil=>exact absurd rfl fa|cons a b=>exact⟨a,b,rfl⟩
 have hg:(w0::wr).getD 0 []=w0:=rfl;rw[hg];have d:=aDG w0;obtain⟨b1,b2⟩:=yD w0;have x:=OR b1 O;obtain⟨f1,f2⟩:=aAR b1 b2;have ka:(strsD (w0::wr))[(0:Int).toNat]?=some (.str w0):=rfl;have j:((strsD (w0::wr)).length:Int)=((w0::wr).length:Int):=by rw[AM]
 have ta:∀w∈w0::wr,w.length<=400:=λw hw=>by have:=xa w hw;omega
 generalize fC w0=op at *;by_cases o:op=0
 ·subst o;rw[if_pos rfl];simp only[GC,↓C2,Gy,reduceIte,Qz,Qx,Ze,Q_,QJ,reduceCtorEq,QC,Q3,Zf,Q4,k,Ae Lc 42,i,ka,Ae Lc 43,d]
  all_goals exact YR
 rw[if_neg o];have wa:(op=0)=False:=eq_false o;have sa:IntKind.i64.wrap (1+((Bj op).length:Int))=((1+(Bj op).length:Nat):Int):=Xi
 by_cases g:(w0::wr).length≠1+(Bj op).length
 ·rw[if_pos g];have t:(((w0::wr).length:Int)=((1+(Bj op).length:Nat):Int))=False:=eq_false (λe=>g O);simp only[GC,↓C2,Gy,reduceIte,Qz,Qx,Ze,Q_,QJ,reduceCtorEq,QC,Q3,Zf,Q4,k,Ae Lc 42,i,ka,Ae Lc 43,d,wa,Ae Lc 44,x,j,sa,t]
  all_goals exact YR
 rw[if_neg g];have g:=Decidable.not_not.1 g;have t:(((w0::wr).length:Int)=((1+(Bj op).length:Nat):Int))=True:=eq_true (by rw[g]);simp only[GC,↓C2,Gy,reduceIte,Qz,Qx,Ze,Q_,QJ,reduceCtorEq,QC,Q3,Zf,Q4,k,Ae Lc 42,i,ka,Ae Lc 43,d,wa,Ae Lc 44,x,j,sa,t];generalize n:AG {akZ with op:=op} (Bj op) ((w0::wr).drop 1)=r;refine zO (r:=r) c f1 O ta g (λv u y p f hm=>?_) (λv u f h5 hm na=>?_) (Bj op).length 0 {akZ with op:=op} _ _ O n (aCC b1 b2) rfl rfl rfl rfl ?_ ?_ ?_
 ·rw[y];simp only[↓C2,GA,simprocAttr,Hl,AU,f,p,hm,QS,BK,BL]
  all_goals exact YR
 ·rw[u];have z:∀(m:GB)(a:Ak),Ag (m.put [0] 0 (GV a)) [0] 0 11=some (GV a):=λm a=>Ax (AT a)
  simp only[↓C2,GA,simprocAttr,f,h5,hm,na,BK,BL,AN,AT,Qk,and_self,Hl,AU,z,QS]
  all_goals exact YR
 ·simp (disch:=decide)only[Ay];exact Ax (ds:=GV akZ) rfl
 ·simp (disch:=decide)only[Ay];exact Ax (ds:=GV {akZ with op:=op}) rfl
 ·rfl
def S1:=Aq [(87,Ac (R19 Rm RR)),(88,Ac S7)]
def aDL:=RF S1 aBS [.cell (some 9) 4] 21
def aN0:Kq aDL 38:=An (Aj func38) (Aa (aVw aRw aRv) (Aa aNc Ad))
def uE.trS{t:Tr}{room:Int}(h:uE t room):TrS t:=⟨by have:=h.len;rw[Tr.cnt_lst]at *;omega,λx q=>⟨Qe (h.key x q) V,Qe (h.val x q) V⟩⟩
def uE.cnt{t:Tr}{room:Int}(h:uE t room):t.cnt<=1945:=by have:=h.len;rw[Tr.cnt_lst]at *;exact this
def Ep(o:Oc):(Li o).length=9:=rfl
def LO{m:GB}{i j o:Nat}{x:List D}{n:Nat}(h:j≠i):Ag (m.put [i] 0 x) [j] o n=Ag m [j] o n:=Ay (by simp[h])
def zN{m:Md}(hm:N8 m){a:Ak}{y:Kn->Oc}(X:G9 m.vw a y){R:Kn->Nat}(hR:∀k d,HP k->(y k).need≠[]->R (A3 k (y k).need (y k).li d)<R k){o:Oc}{Q:Ex->St->Prop}
  (pa:∀ga,Ag ga.m [2] 0 9=some (Li o)->ga.s 4= .ptr [2] 0->Q .ret ga):
  ∀(f j:Nat)(k:Kn)(x:St) g,KnJ k j->j+f<=20->R k<=f->eP y m.tr f k=o->4<=x.c->x.s 2= .ptr [0] 0->x.s 3= .ptr [1] 0->x.s 4= .ptr [2] 0->x.s 5= .ptr [3] 0->
   Ag x.m [0] 0 5=some (Hc m.vw)->Ag x.m [0] 5 1=some [GK m.tr]->Ag x.m [1] 0 11=some (GV a)->(∃z,Ag x.m [2] 0 9=some z)->Ag x.m [3] 0 5=some (Ha k)->A9 S1 [] Mo Q x g:=by
 intro f;induction f with
 |zero=>
  intro j k x g hk hj hr ho hc h2 h3 h4 h5 m0 p m1 ⟨z,m2⟩ m3;have l:=hk.ok O;have hn:(y k).need=[]:=by
   by_cases hn:(y k).need=[]
   ·exact hn
   ·have:=hR k (Fs m.tr []) l hn;omega
  have la:=X.run k l;have v:S1 87=some (Ac (R19 Rm RR)):=rfl;have u:S1 88=some (Ac S7):=rfl;unfold Hj GW at la;refine Af Mo.eq_1 ?_;obtain⟨ma,ia,ea⟩:=x;simp only at hc h2 h3 h4 h5 m0 p m1 m2 m3;have zc:(D.agg (Li (y k))).cells=Li (y k):=rfl;have zu:(D.agg (Li (y k))).un1=D.agg (Li (y k)):=rfl;have zn:(D.agg (Li (y k))).un=D.agg (Li (y k)):=rfl;have zd:(D.agg (Li (y k))).data=true:=rfl;have zm:(D.agg (Li (y k))).calm=true:=rfl;have z9:∀{m:GB} {i:Id} {a b c d e f g h j:D},Ag (m.put i 0 [a,b,c,d,e,f,g,h,j]) i 0 9=some [a,b,c,d,e,f,g,h,j]:=Ax rfl;have zo:∀{m:GB} {i:Id},Ag (m.put i 0 (Li (y k))) i 0 9=some (Li (y k)):=Ax (Ep _);have z0:∀{m:GB} {i:Id},m.put i 0 (Li (y k)) i 0=some (.str (y k).need):=Bi (k:=0) (Ax (Ep _)) rfl;simp only[Hc,Ha]at la m0 m3;unfold eP at ho;have ha:((y k).need=[])=True:=eq_true hn;simp (disch:=first|assumption|omega)only[↓C2,GA,simprocAttr,h2,h3,h4,h5,m0,p,m1,m2,m3,Ab v,la,zc,ha,BK,BL,AN,AT,Ep,z9,zo,z0,LO,Qk,and_self,zu,zd,zm,zn];subst ho;exact pa _ (Ax (Ep _)) h4
 |succ f ih=>
  intro j k x g hk hj hr ho hc h2 h3 h4 h5 m0 p m1 ⟨z,m2⟩ m3;have l:=hk.ok O;have la:=X.run k l;have v:S1 87=some (Ac (R19 Rm RR)):=rfl;have u:S1 88=some (Ac S7):=rfl;unfold Hj GW at la;refine Af Mo.eq_1 ?_;obtain⟨ma,ia,ea⟩:=x;simp only at hc h2 h3 h4 h5 m0 p m1 m2 m3;have zc:(D.agg (Li (y k))).cells=Li (y k):=rfl;have zu:(D.agg (Li (y k))).un1=D.agg (Li (y k)):=rfl;have zn:(D.agg (Li (y k))).un=D.agg (Li (y k)):=rfl;have zd:(D.agg (Li (y k))).data=true:=rfl;have zm:(D.agg (Li (y k))).calm=true:=rfl;have z9:∀{m:GB} {i:Id} {a b c d e f g h j:D},Ag (m.put i 0 [a,b,c,d,e,f,g,h,j]) i 0 9=some [a,b,c,d,e,f,g,h,j]:=Ax rfl;have zo:∀{m:GB} {i:Id},Ag (m.put i 0 (Li (y k))) i 0 9=some (Li (y k)):=Ax (Ep _);have z0:∀{m:GB} {i:Id},m.put i 0 (Li (y k)) i 0=some (.str (y k).need):=Bi (k:=0) (Ax (Ep _)) rfl;simp only[Hc,Ha]at la m0 m3;unfold eP at ho;by_cases hn:(y k).need=[]
  ·rw[if_pos hn]at ho;have ha:((y k).need=[])=True:=eq_true hn;simp (disch:=first|assumption|omega)only[↓C2,GA,simprocAttr,h2,h3,h4,h5,m0,p,m1,m2,m3,Ab v,la,zc,ha,BK,BL,AN,AT,Ep,z9,zo,z0,LO,Qk,and_self,zu,zd,zm,zn];subst ho;exact pa _ (Ax (Ep _)) h4
  ·rw[if_neg hn]at ho;have ha:((y k).need=[])=False:=eq_false hn;have w:=hR k (Fs m.tr (y k).need) l hn;have da:=hk.learn hm.tr (y k).need (y k).li;have n:=aD5 (k:=k) (q:=(y k).need) (li:=(y k).li) (r:=[.str (y k).rep,.slice (y k).nl [] (D5 (y k).ops)]++Hc (y k).vw) (t:=m.tr) ⟨Qe l.es V,Qe l.ls V,rfl,hm.tr.trS,Qe (kH _ _) (Qe hm.tr.len V)⟩;generalize A3 k (y k).need (y k).li (Fs m.tr (y k).need)=k' at ho w da n;have n:S7 [.agg (Ha k),.agg (Li (y k)),.agg [GK m.tr]]=some (.agg (Ha k')):=n;simp only[Ha]at n;have z5:∀{m:GB} {i:Id} {a b c d e:D},Ag (m.put i 0 [a,b,c,d,e]) i 0 5=some [a,b,c,d,e]:=Ax rfl;simp (disch:=first|assumption|omega)only[↓C2,GA,simprocAttr,h2,h3,h4,h5,m0,p,m1,m2,m3,Ab v,la,zc,ha,BK,BL,AN,AT,Ep,z9,zo,z0,LO,Qk,and_self,zu,zd,zm,zn,Ab u,n,GM,z5];refine ih (j+1) k' _ _ da O O ho Xb h2 h3 h4 h5 ?_ ?_ ?_ ⟨z,?_⟩ ?_
   ·simp (disch:=omega)only[LO];exact m0
   ·simp (disch:=omega)only[LO];exact p
   ·simp (disch:=omega)only[LO];exact m1
   ·simp (disch:=omega)only[LO];exact m2
   ·exact Ax rfl
def aDK{m:Md}(u:N8 m){a:Ak}{z:Kn->Oc}(X:G9 m.vw a z):aDL [.agg (GP m),GW a]=some (.agg (Li (FP z m))):=by
 refine Al (Qa rfl) ?_;unfold aBS;unfold GP GW;have i:D.cells (.agg (GP m))=GP m:=rfl;obtain⟨R,p,w⟩:=X.term;simp only[GC,↓C2,Gy,simprocAttr,i];refine zN u X w (o:=FP z m) (λq e t=>?_) 4 0 kn0 _ _ aJn V (Qe (p _) V) rfl (Qg _) rfl rfl rfl rfl ?_ ?_ ?_ ⟨[.str [],.bool false,.str [],.slice true [] [],.bool false,.int .i64 0,.str [],.slice true [] [],.slice true [] []],?_⟩ ?_
 ·simp only[↓C2,GA,simprocAttr,Bm,AU,t,e,QS]
  all_goals exact YR
 ·simp (disch:=decide)only[Ay];exact xQ (cs:=GP m) (n:=7) (Ax rfl) V
 ·simp (disch:=decide)only[Ay];exact xQ (cs:=GP m) (n:=7) (Ax rfl) V
 ·simp (disch:=decide)only[Ay];exact Ax (AT a)
 ·simp (disch:=decide)only[Ay];exact Ax rfl
 ·exact Ax rfl
def Dl:Gz:=Aq [(15,Ac S4),(37,Ac aHP),(38,Ac aDL),(39,Ac aDJ),(35,Ac S8)]
def B2:List D->Option D:=RF Dl PS [.cell (some 7) 4,.t 5] 53
def fZ:Kq B2 11:=An (Aj func11:Fn QA 11 53 PS [.cell (some 7) 4,.t 5]) (Aa aAo (Aa aJm (Aa aN0 (Aa aNZ (Aa TR Ad)))))
def aHR{m:Md}(h:m.room=0)(s:Bs):B2 [.agg (GP m),.str s]=some (.tup [.agg (GP m),.str []]):=by
 refine Al (Qa rfl) ?_;unfold PS;have f:(m.room=0)=True:=eq_true h;simp only[GP,Hc,Qh,Qi];simp (disch:=first|assumption|omega)only[GC,↓C2,Gy,simprocAttr,GM,f]
 all_goals exact YR
def oL{m:Md}(h:m.room≠0){s:Bs}{e:Int}(hl:s.length<=1000000)(f:(Cd s).2=e)(d:1<=e∧e<=99):B2 [.agg (GP m),.str s]=some (.tup [.agg (GP m),.str (Hg (.fail e))]):=by
 refine Al (Qa rfl) ?_;unfold PS;have o:(m.room=0)=False:=eq_false h;have g:=Rj s hl;rw[f]at g;have b:=UZ e d;have z:(e=0)=False:=eq_false O;unfold GW at g;generalize (Cd s).1=a at g;have u:D.cells (.agg (GV a))=GV a:=rfl;have y:∀{m:GB} {i:Id},Ag (m.put i 0 (GV a)) i 0 11=some (GV a):=Ax (AT a);have c:∀{m:GB} {i:Id} {xs:List D},xs.length=11->(Ag (m.put i 0 xs) i 0 11).isSome=true:=λh=>by rw[GX h];rfl
 simp only[GP,Hc,Qh,Qi];simp (disch:=first|assumption|omega)only[GC,↓C2,Gy,simprocAttr,GM,o,Ae Dl 15,g,u,BK,BL,AN,AT,z,Ae Dl 37,b]
 (refine As.intro (Am ?_) ?_;first|rfl|simp[AR,AB,GS,Ai,Ac])
 simp (disch:=first|assumption|omega)only[GC,↓C2,Gy,simprocAttr,GM,o,Ae Dl 15,g,u,BK,BL,AN,AT,z,Ae Dl 37,b]
 all_goals exact YR
def lG:∀(l:List Op1){t:Tr},Tr.Ord t.lst->(FQ l t).cnt<=l.length+t.cnt
 |[],t,_=>by simp[FQ]
 |x::r,t,h=>by
  have u:=(VZ x h).1;have y:=lG r (IN x h).1;simp only[FQ,Qb];omega
def Vz:∀l:List (Bs×Bs),(∀x∈l,x.1.length<=100∧x.2.length<=400)->Tr.sizeL l<=504*l.length
 |[],_=>by simp[Tr.sizeL]
 |x::l,h=>by
  have u:=h x Qy;have:=Vz l λy o=>h y (Qv _ o)
  simp only[Tr.sizeL,Ql,Qm,Qb]at this ⊢;omega
def rB{v:Vw}{a:Ak}{o:Oc}(h:Iy v a o):uN o.ops:=by
 obtain⟨y,_,_,_,⟨_,e,_⟩|⟨_,⟨_,e,_⟩|⟨_,_,e,_⟩⟩⟩:=h
 ·rw[e];exact⟨U,λx q=>XE⟩
 ·rw[e];exact⟨U,λx q=>XE⟩
 ·exact e
def aE0{t:Tr}{room:Int}(h:uE t room){l:List Op1}(hl:uN l):TrS (FQ l t):=by
 obtain⟨u,y⟩:=TP l h.ord;have p:=lG l h.ord;have r:=h.cnt;have c:=hl.n;refine⟨O,λx q=>?_⟩;rcases y x q with h6|⟨z,i,_,rfl⟩
 ·exact⟨Qe (h.key x h6) V,Qe (h.val x h6) V⟩
 ·exact⟨Qe (hl.ok z i).1.1 V,Qe (hl.ok z i).1.2.1 V⟩
def IU{m:Md}(h:m.room≠0){s:Bs}(hl:s.length<=1000000){a:Ak}(he:Cd s=(a,0)){z:Kn->Oc}(t:N8 m)(X:G9 m.vw a z):B2 [.agg (GP m),.str s]=some (.tup [.agg (GP (Fg m (FP z m)).1),.str (Fg m (FP z m)).2]):=by
 refine Al (Qa rfl) ?_;unfold PS;have h0:(m.room=0)=False:=eq_false h;have y:=Rj s hl;rw[he]at y;have v:=aDK t X;obtain⟨g,k,w,p⟩:=TK t X;have c:uN (FP z m).ops:=rB (by rw[p];exact X.rep k w (by rw[←p];exact g));have r:=aE0 t.tr c;have la:=Iz r;have f:=aDI m.tr (FP z m).nl (FP z m).ops (Qe c.n V) (λx q=>⟨(c.ok x q).1.1,(c.ok x q).1.2.1⟩) t.tr.ord (by have:=t.tr.cnt;have:=c.n;omega) (by
  have u:=Vz m.tr.lst λx q=>⟨t.tr.key x q,t.tr.val x q⟩
  rw[←Tr.wgt_lst]at u;have:=t.tr.len;have:=c.n;omega)
 have b:=UZ 7 V;generalize FP z m=o at *;have i:(D5 o.ops).length=o.ops.length:=Qu ..;unfold Fg;generalize FQ o.ops m.tr=T at *;unfold GW at y v;simp only[GP,Hc,Li,GV,Qh,Qi]at y v ⊢;by_cases j:o.ops=[]
 ·rw[if_neg (λh=>h.1 j)];have c1:((0:Int)<(o.ops.length:Int))=False:=by rw[j];simp
  repeat' (first|(refine As.intro (Am ?_) ?_;first|rfl|simp[AR,AB,GS,Ai,Ac])|simp (disch:=first|assumption|omega)only[GC,↓C2,Gy,simprocAttr,GM,h0,Ae Dl 15,y,Ae Dl 38,v,Ae Dl 39,f,Ae Dl 35,la,Ae Dl 37,b,i,c1])
 ·have c1:((0:Int)<(o.ops.length:Int))=True:=eq_true (by have:o.ops.length≠0:=λe=>j (List.length_eq_zero_iff.1 e);omega);by_cases hw:m.room<(Tr.weighL T.lst:Int)
  ·rw[if_pos ⟨j,hw⟩];have c2:(m.room<(Tr.weighL T.lst:Int))=True:=eq_true hw
   repeat' (first|(refine As.intro (Am ?_) ?_;first|rfl|simp[AR,AB,GS,Ai,Ac])|simp (disch:=first|assumption|omega)only[GC,↓C2,Gy,simprocAttr,GM,h0,Ae Dl 15,y,Ae Dl 38,v,Ae Dl 39,f,Ae Dl 35,la,Ae Dl 37,b,i,c1,c2])
  ·rw[if_neg (λh=>hw h.2)];have c2:(m.room<(Tr.weighL T.lst:Int))=False:=eq_false hw
   repeat' (first|(refine As.intro (Am ?_) ?_;first|rfl|simp[AR,AB,GS,Ai,Ac])|simp (disch:=first|assumption|omega)only[GC,↓C2,Gy,simprocAttr,GM,h0,Ae Dl 15,y,Ae Dl 38,v,Ae Dl 39,f,Ae Dl 35,la,Ae Dl 37,b,i,c1,c2])
def aVR:=Aq []
def aPi:=RF aVR mN [.t 4] 26
def aSm:Kq aPi 197:=An aJx Ad
def lR{S:Gz}{l:List Rl}{nl nl':Bool}{Q:Ex->St->Prop}(hl:l.length<=1000000)(i:∀k,Q (.exit 0) k):
  ∀(f j:Nat)(v:St) g,l.length=j+f->v.s 0= .slice nl [] (Ar l)->v.s 1= .slice nl' [] (Ar l)->v.s 12= .int .i64 (l.length:Int)->v.s 13= .int .i64 (j:Int)->A9 S [] Mc Q v g
 |0,j,v,g,hf,h0,h1,h12,h13=>by
  refine Af Mc.eq_1 ?_;have o:((j:Int)<l.length)=False:=eq_false O;simp only[GC,↓C2,Gy,simprocAttr,h12,h13,o];exact i _
 |f+1,j,v,g,hf,h0,h1,h12,h13=>by
  have ih:=lR (S:=S) (nl:=nl) (nl':=nl') hl i f (j+1);refine Af Mc.eq_1 ?_;have o:((j:Int)<l.length)=True:=eq_true O;have u:j<l.length:=O
  have q:(Ar l)[j]?=some (rlD l[j]):=by unfold Ar;rw[QF,Qc u];rfl
  unfold rlD at q;generalize l[j]=x at q;obtain⟨p,t,b⟩:=v;simp only at h0 h1 h12 h13;have w:=nJ (j:=j);have z:IntKind.i64.wrap ((j:Int)+1)=((j+1:Nat):Int):=GZ O O
  repeat' (first|(refine As.intro (Am ?_) ?_;first|rfl|simp[AR,AB,GS,Ai,Ac])|simp only[GC,↓C2,Gy,simprocAttr,h0,h1,h12,h13,o,w,Qj,q,z,O5,Be,Lm,Qo,QG,beq_self_eq_true,bne_self_eq_false])
  exact ih _ _ O h0 h1 h12 rfl
def aG3(nl nl':Bool)(l:List Rl)(hl:l.length<=1000000):aPi [.slice nl [] (Ar l),.slice nl' [] (Ar l)]=some (.bool true):=by
 refine Al (Qa rfl) ?_;unfold mN;have r:=AZ l;simp only[GC,↓C2,Gy,simprocAttr,r,bne_self_eq_false];refine lR (nl:=nl) (nl':=nl') hl (λq=>?_) l.length 0 _ _ O rfl rfl rfl rfl;simp only[GC,↓C2,Gy,simprocAttr]
 all_goals exact YR
def aUo:=Aq []
def aDy:=RF aUo aBJ [.t 4] 26
def aNP:Kq aDy 75:=An (Aj func75) Ad
def Wk{S:Gz}{l:List Mt}{nl nl':Bool}{Q:Ex->St->Prop}(hl:l.length<=1000000)(i:∀k,Q (.exit 0) k):
  ∀(f j:Nat)(v:St) g,l.length=j+f->v.s 0= .slice nl [] (AA l)->v.s 1= .slice nl' [] (AA l)->v.s 12= .int .i64 (l.length:Int)->v.s 13= .int .i64 (j:Int)->A9 S [] Mj Q v g
 |0,j,v,g,hf,h0,h1,h12,h13=>by
  refine Af Mj.eq_1 ?_;have o:((j:Int)<l.length)=False:=eq_false O;simp only[GC,↓C2,Gy,simprocAttr,h12,h13,o];exact i _
 |f+1,j,v,g,hf,h0,h1,h12,h13=>by
  have ih:=Wk (S:=S) (nl:=nl) (nl':=nl') hl i f (j+1);refine Af Mj.eq_1 ?_;have o:((j:Int)<l.length)=True:=eq_true O;have u:j<l.length:=O
  have q:(AA l)[j]?=some (MJ l[j]):=by unfold AA;rw[QF,Qc u];rfl
  unfold MJ at q;generalize l[j]=x at q;obtain⟨p,t,b⟩:=v;simp only at h0 h1 h12 h13;have w:=nJ (j:=j);have z:IntKind.i64.wrap ((j:Int)+1)=((j+1:Nat):Int):=GZ O O
  repeat' (first|(refine As.intro (Am ?_) ?_;first|rfl|simp[AR,AB,GS,Ai,Ac])|simp only[GC,↓C2,Gy,simprocAttr,h0,h1,h12,h13,o,w,Qj,q,z,O5,Be,Lm,Qo,QG,beq_self_eq_true,bne_self_eq_false])
  exact ih _ _ O h0 h1 h12 rfl
def aDx(nl nl':Bool)(l:List Mt)(hl:l.length<=1000000):aDy [.slice nl [] (AA l),.slice nl' [] (AA l)]=some (.bool true):=by
 refine Al (Qa rfl) ?_;unfold aBJ;have r:=AX l;simp only[GC,↓C2,Gy,simprocAttr,r,bne_self_eq_false];refine Wk (nl:=nl) (nl':=nl') hl (λq=>?_) l.length 0 _ _ O rfl rfl rfl rfl;simp only[GC,↓C2,Gy,simprocAttr]
 all_goals exact YR
def aT7:=Aq [(197,Ac aPi)]
def aPw:=RF aT7 mR [.t 4] 8
def aSE:Kq aPw 132:=An aJB (Aa aSm Ad)
def aHm(nl nl':Bool)(l:List Rl)(hl:l.length<=1000000):aPw [.slice nl [] (Ar l),.slice nl' [] (Ar l)]=some (.bool true):=by
 refine Al (Qa rfl) ?_;unfold mR;have a:=aG3 nl nl' l hl;simp only[GC,↓C2,Gy,simprocAttr,Ae aT7 197,a]
 all_goals exact YR
def aLX:=Aq [(132,Ac aPw)]
def dB:=RF aLX aBH [.t 4] 24
def aNN:Kq dB 77:=An (Aj func77) (Aa aSE Ad)
def aDu(k:Tk)(hl:k.2.2.2.length<=1000000):dB [O1 k,O1 k]=some (.bool true):=by
 refine Al (Qa rfl) ?_;unfold aBH;have b:=aHm k.2.2.1 k.2.2.1 k.2.2.2 hl;unfold O1;simp only[GC,↓C2,Gy,simprocAttr,Ae aLX 132,b,beq_self_eq_true]
 all_goals exact YR
def aL5:=Aq [(75,Ac aDy)]
def aDP:=RF aL5 aBV [.t 4] 10
def aN2:Kq aDP 32:=An (Aj func32) (Aa aNP Ad)
def aDO(nl nl':Bool)(l:List Mt)(hl:l.length<=1000000):aDP [.agg [.slice nl [] (AA l)],.agg [.slice nl' [] (AA l)]]=some (.bool true):=by
 refine Al (Qa rfl) ?_;unfold aBV;have a:=aDx nl nl' l hl;simp only[GC,↓C2,Gy,simprocAttr,Ae aL5 75,a]
 all_goals exact YR
def aLY:=Aq [(77,Ac dB)]
def aDw:=RF aLY aBI [.t 6] 32
def aNO:Kq aDw 76:=An (Aj func76) (Aa aNN Ad)
def Wj{S:Gz}(e:S 77=some (Ac dB)){l:List Tk}{nl nl':Bool}{Q:Ex->St->Prop}(hl:l.length<=1000000)(w:∀k∈l,k.2.2.2.length<=1000000)(hQ:∀u,Q (.exit 0) u):
  ∀(f j:Nat)(v:St) g,l.length=j+f->v.s 1= .slice nl' [] (AI l)->v.s 15= .slice nl [] (AI l)->v.s 2= .fn 77 []->v.s 16= .int .i64 (l.length:Int)->v.s 17= .int .i64 (j:Int)->A9 S [] Mi Q v g
 |0,j,v,g,hf,h1,h15,h2,h16,h17=>by
  refine Af Mi.eq_1 ?_;have p:((j:Int)<l.length)=False:=eq_false O;simp only[GC,↓C2,Gy,simprocAttr,h16,h17,p];exact hQ _
 |f+1,j,v,g,hf,h1,h15,h2,h16,h17=>by
  have ih:=Wj e (nl:=nl) (nl':=nl') hl w hQ f (j+1);refine Af Mi.eq_1 ?_;have p:((j:Int)<l.length)=True:=eq_true O;have z:j<l.length:=O
  have q:(AI l)[j]?=some (O1 l[j]):=by unfold AI;rw[QF,Qc z];rfl
  have d:=aDu l[j] (w _ (QD z));unfold O1 at q d;generalize l[j]=x at q d;obtain⟨ma,t,ea⟩:=v;simp only at h1 h15 h2 h16 h17;have o:=nJ (j:=j);have y:IntKind.i64.wrap ((j:Int)+1)=((j+1:Nat):Int):=GZ O O;have z3:∀{m:GB} {i:Id} {a b c:D},Ag (m.put i 0 [a,b,c]) i 0 3=some [a,b,c]:=Ax rfl;have r:∀{m:GB} {i j:Nat} {x:List D} {n:Nat},j≠i->Ag (m.put [i] 0 x) [j] 0 n=Ag m [j] 0 n:=λh=>Ay (by simp[h])
  simp (disch:=first|assumption|omega)only[↓C2,GA,simprocAttr,h1,h15,h2,h16,h17,p,o,Qj,q,y,z3,r,Ab e,d,Qk,and_self,List.take_succ_cons,List.take_zero];exact ih _ _ O h1 h15 h2 h16 rfl
def aDv(nl nl':Bool)(l:List Tk)(hl:l.length<=1000000)(s:∀k∈l,k.2.2.2.length<=1000000):aDw [.slice nl [] (AI l),.slice nl' [] (AI l),.fn 77 []]=some (.bool true):=by
 refine Al (Qa rfl) ?_;have a:aLY 77=some (Ac dB):=rfl;unfold aBI;have r:(AI l).length=l.length:=Qu ..;simp only[GC,↓C2,Gy,simprocAttr,r,bne_self_eq_false];refine Wj a (nl:=nl) (nl':=nl') hl s (λq=>?_) l.length 0 _ _ O rfl rfl rfl rfl rfl;simp only[GC,↓C2,Gy,simprocAttr]
 all_goals exact YR
def aL4:=Aq [(76,Ac aDw)]
def aDN:=RF aL4 aBU [.t 4] 10
def aN1:Kq aDN 33:=An (Aj func33) (Aa aNO Ad)
def aDM(nl nl':Bool)(l:List Tk)(hl:l.length<=1000000)(s:∀k∈l,k.2.2.2.length<=1000000):aDN [.agg [.slice nl [] (AI l)],.agg [.slice nl' [] (AI l)]]=some (.bool true):=by
 refine Al (Qa rfl) ?_;unfold aBU;have a:=aDv nl nl' l hl s;simp only[GC,↓C2,Gy,simprocAttr,Ae aL4 76,a]
 all_goals exact YR
def aC1:=Aq [(32,Ac aDP),(33,Ac aDN)]
def aDE:=RF aC1 aBO [.t 4] 38
def aNW:Kq aDE 46:=An (Aj func46) (Aa aN2 (Aa aN1 Ad))
def dC(v:Vw)(u:v.ms.length<=1000000)(hl:v.ks.length<=1000000)(s:∀k∈v.ks,k.2.2.2.length<=1000000):aDE [Hj v,Hj v]=some (.bool true):=by
 refine Al (Qa rfl) ?_;unfold aBO;have b:=aDO v.nlm v.nlm v.ms u;have z:=aDM v.nlt v.nlt v.ks hl s;simp only[Hj,Hc];simp only[GC,↓C2,Gy,simprocAttr,Ae aC1 32,b,Ae aC1 33,z,beq_self_eq_true]
 all_goals exact YR
def cU:=Aq [(46,Ac aDE),(47,Ac oP)]
def Ld:=RF cU iL [.t 4] 24
def aAn:Kq Ld 16:=An (Aj func16) (Aa aNW (Aa aNd Ad))
def oK(m:Md)(u:m.vw.ms.length<=1000000)(hl:m.vw.ks.length<=1000000)(s:∀k∈m.vw.ks,k.2.2.2.length<=1000000)(f:Tr.Ord m.tr.lst)(o:m.tr.cnt<=400000):Ld [.agg (GP m),.agg (GP m)]=some (.bool true):=by
 refine Al (Qa rfl) ?_;unfold iL;have a:=dC m.vw u hl s;have b:=aHX f o;simp only[GP,Hj,Hc,Qh,Qi]at a ⊢;simp (disch:=first|assumption|omega)only[GC,↓C2,Gy,simprocAttr,GM,Ae cU 46,a,Ae cU 47,b,beq_self_eq_true]
 all_goals exact YR
def aHQ(m o:Md)(x:m.vw=o.vw)(n:m.room=o.room)(u:m.vw.ms.length<=1000000)(hl:m.vw.ks.length<=1000000)(s:∀k∈m.vw.ks,k.2.2.2.length<=1000000)(v:m.tr.cnt≠o.tr.cnt):Ld [.agg (GP m),.agg (GP o)]=some (.bool false):=by
 refine Al (Qa rfl) ?_;unfold iL;have a:=dC m.vw u hl s;have b:=aHY v;obtain⟨g,i,y⟩:=m;obtain⟨e,ot,c⟩:=o;simp only at x n a b;subst x n;simp only[GP,Hj,Hc,Qh,Qi]at a ⊢;simp (disch:=first|assumption|omega)only[GC,↓C2,Gy,simprocAttr,GM,Ae cU 46,a,Ae cU 47,b,beq_self_eq_true]
 all_goals exact YR
def aL7:=Aq [(35,Ac S8)]
def aDT:=RF aL7 aBY [.t 2] 9
def aN4:Kq aDT 17:=An (Aj func17) (Aa TR Ad)
def aDS(m:Md)(n:m.room≠0)(j:TrS m.tr):aDT [.agg (GP m)]=some (.int .i64 ((Tr.weighL m.tr.lst:Nat):Int)):=by
 refine Al (Qa rfl) ?_;unfold aBY;have q:=Iz j;have f:(m.room=0)=False:=eq_false n;simp only[GP,Hc,Qh,Qi];simp (disch:=first|assumption|omega)only[GC,↓C2,Gy,simprocAttr,GM,Ae aL7 35,q,f]
 all_goals exact YR
def aUp:=Aq []
def oJ:=RF aUp aBX [.t 2] 5
def aN3:Kq oJ 18:=An (Aj func18) Ad
def aDR(m:Md):oJ [.agg (GP m)]=some (.int .i64 m.room):=by
 refine Al (Qa rfl) ?_;unfold aBX;simp only[GP,Hc,Qh,Qi];simp (disch:=first|assumption|omega)only[GC,↓C2,Gy,simprocAttr,GM]
 all_goals exact YR
def aLZ:=Aq [(26,Ac aHx)]
def S3:=RF aLZ aBK [.t 4] 15
def aNQ:Kq S3 71:=An (Aj func71) (Aa aJc Ad)
def Rh(k:Int)(name:Bs)(hl:name.length<=1000000):S3 [.int .u8 k,.str name]=some (.str (A_ k name 0)):=by
 refine Al (Qa rfl) ?_;unfold aBK;have a:=nZ k 0 name hl;simp only[GC,↓C2,Gy,simprocAttr,Ae aLZ 26,a]
 all_goals exact YR
def Hk:Bs:=[114,111,111,116]
def LU:Bs:=[115,47,114,105,110,103]
def Pf:Bs:=[115,47,109,111,117,110,116,115]
def VK:Bs:=[116,47,114,111,111,116]
def VJ:Bs:=B5 [[],Bu (Bg [([],63)])]
def LT:Bs:=List.replicate 17 0
def firstE:Tr:=((Tr.nil.put LU LT).put Pf []).put VK VJ
def ME:=Aq [(80,Ac F48),(81,Ac F35),(82,Ac uJ),(84,Ac RP),(85,Ac aDb),(86,Ac vB),(71,Ac S3),(83,Ac oH)]
def oI:=RF ME aBT [.cell (some 1) 0] 30
def aAk:Kq oI 36:=An (Aj func36) (Aa aQN (Aa aQS (Aa aJh (Aa aJk (Aa aJj (Aa yL (Aa aNQ (Aa aAj Ad))))))))
def Ri:oI []=some (.agg [GK firstE]):=by
 refine Al (Qa rfl) ?_;unfold aBT;have f:F48 []=some (.agg [.slice false [] (AI [Cx])]):=rfl;have q:F35 [.agg [.slice false [] (AI [Cx])],.str [114,111,111,116]]=some (.tup [O1 Cx,.bool true]):=aEd V (λk s=>by rw[Qn.1 s];exact⟨V,λh=>Xd⟩);have q:=(q:F35 _=_);unfold O1 Cx at q;have g:uJ [O1 Cx]=some (.tup [.str VJ,.int .i64 0]):=oA [114,111,111,116] [] false [([],63)] (Bu (Bg [([],63)])) (B3 [([],63)]) (by rw[U6 V (λr n=>X3) V V];rfl) (by rw[U4 V (λr n=>X3)];rfl) V Xj;unfold O1 Cx at g;have d:aDb [.int .i64 1]=some (.int .i64 17):=oB 1;have a:RP [.str [0],.int .i64 17]=some (.str LT):=rfl;have b:vB [.agg [.slice true [] (AA [])]]=some (.str []):=U5 ⟨V,λm u=>by cases u⟩;have w:S3 [.int .u8 5,.str []]=some (.str LU):=Rh 5 [] V;have c:S3 [.int .u8 4,.str []]=some (.str Pf):=Rh 4 [] V;have o:S3 [.int .u8 3,.str [114,111,111,116]]=some (.str VK):=Rh 3 [114,111,111,116] V;have e:=MG Tr.nil LU LT V V;have i:=MG (Tr.nil.put LU LT) Pf [] V V;have v:=MG ((Tr.nil.put LU LT).put Pf []) VK VJ V Xj;rw[ID]at e;unfold firstE;generalize (((Tr.nil.put LU LT).put Pf []).put VK VJ)=y at *;generalize ((Tr.nil.put LU LT).put Pf [])=z at *;generalize (Tr.nil.put LU LT)=j at *;simp only[AI,O1,Cx,AA,Ql,Qt]at f q b
 repeat' (first|(refine As.intro (Am ?_) ?_;first|rfl|simp[AR,AB,GS,Ai,Ac])|simp (disch:=first|assumption|omega)only[GC,↓C2,Gy,simprocAttr,GM,Ae ME 80,f,Ae ME 81,q,Ae ME 82,g,Ae ME 85,d,Ae ME 84,a,Ae ME 86,b,Ae ME 71,w,c,o,Ae ME 83,e,i,v])
def Uj:Tr.weighL firstE.lst<=300:=Xj
def aAV:21<=Tr.weighL firstE.lst:=Xj
def rF:Tr.Ord firstE.lst:=by
 have f:Tr.Ord Tr.nil.lst:=List.Pairwise.nil;have u:=(IN (1,LU,LT) f).1;have y:=(IN (1,Pf,[]) u).1;exact(IN (1,VK,VJ) y).1
def WJ:∀x∈firstE.lst,x.1.length<=100∧x.2.length<=400:=Xj
def mE{room:Int}(h:300<=room)(y:room<=70000):uE firstE room:=⟨rF,λx q=>(WJ x q).1,λx q=>(WJ x q).2,by have:=Uj;omega,y⟩
def Om:TrS firstE:=(mE (room:=300) (Q0 _) V).trS
def vF:Md:=⟨⟨false,0,[],true,[],true,[]⟩,.nil,0⟩
def Pn(z:Bs)(room:Int):Md:=⟨aF8 z false,firstE,room⟩
def S2:=Aq [(36,Ac oI),(35,Ac S8),(78,Ac F23)]
def MH:=RF S2 UF [.cell (some 7) 4,.t 5] 26
def aAl:Kq MH 34:=An (Aj func34) (Aa aAk (Aa TR (Aa aU6 Ad)))
def dE(z:Bs)(room:Int)(s:z.length=16)(n:room<=1048576)(k:(Tr.weighL firstE.lst:Int)<=room):MH [.str z,.int .i64 room]=some (.tup [.agg (GP (Pn z room)),.int .i64 0]):=by
 refine Al (Qa rfl) ?_;unfold UF;have q:=Iz Om;have r:=Ri;have o:F23 [.str z]=some (Hj (aF8 z false)):=rfl;have c1:((z.length:Int)=16)=True:=eq_true O;have p:((1048576:Int)<room)=False:=eq_false O;have b:(room<(Tr.weighL firstE.lst:Int))=False:=eq_false O;simp only[Pn,GP,Hj,Hc,Qh,Qi]at o ⊢;generalize firstE=t at *
 repeat' (first|(refine As.intro (Am ?_) ?_;first|rfl|simp[AR,AB,GS,Ai,Ac])|simp (disch:=first|assumption|omega)only[GC,↓C2,Gy,simprocAttr,GM,Ae S2 36,r,Ae S2 35,q,Ae S2 78,o,c1,p,b,bne_self_eq_false])
def uM(z:Bs)(room:Int)(s:z.length≠16):MH [.str z,.int .i64 room]=some (.tup [.agg (GP vF),.int .i64 2]):=by
 refine Al (Qa rfl) ?_;unfold UF;have c1:((z.length:Int)=16)=False:=eq_false O;simp only[vF,GP,Hc,Qh,Qi,ID]
 repeat' (first|(refine As.intro (Am ?_) ?_;first|rfl|simp[AR,AB,GS,Ai,Ac])|simp (disch:=first|assumption|omega)only[GC,↓C2,Gy,simprocAttr,GM,c1])
 all_goals exact YR
def jQ(z:Bs)(room:Int)(s:z.length=16)(n:room<=1048576)(k:room<(Tr.weighL firstE.lst:Int)):MH [.str z,.int .i64 room]=some (.tup [.agg (GP vF),.int .i64 7]):=by
 refine Al (Qa rfl) ?_;unfold UF;have q:=Iz Om;have r:=Ri;have c1:((z.length:Int)=16)=True:=eq_true O;have p:((1048576:Int)<room)=False:=eq_false O;have o:(room<(Tr.weighL firstE.lst:Int))=True:=eq_true O;simp only[vF,GP,Hc,Qh,Qi,ID];generalize firstE=t at *
 repeat' (first|(refine As.intro (Am ?_) ?_;first|rfl|simp[AR,AB,GS,Ai,Ac])|simp (disch:=first|assumption|omega)only[GC,↓C2,Gy,simprocAttr,GM,Ae S2 36,r,Ae S2 35,q,c1,p,o])
 all_goals exact YR
def Ho:Bs:=[48,49,50,51,52,53,54,55,56,57,97,98,99,100,101,102]
def aC2:=Aq [(34,Ac MH),(11,Ac B2)]
def aDW:=RF aC2 aB1 [.cell (some 7) 4,.t 5] 38
def aN6:Kq aDW 10:=An (Aj func10) (Aa aAl (Aa fZ Ad))
def VW(l:List Bs):Int:=if 40<l.length then 1 else if l.all (λs=>decide (s.length<=500))=true then 0 else 1
def aUr:=Aq []
def aD0:=RF aUr aB3 [.t 2] 19
def aN8:Kq aD0 8:=An (Aj func8) Ad
def Wn{S:Gz}{l:List Bs}{nl:Bool}{Q:Ex->St->Prop}(hl:l.length<=40){R:Int}(a:∀k,k.s 2= .int .i64 R->Q .ret k)(c:∀k,R=0->Q (.exit 0) k):
  ∀(f j:Nat)(v:St) g,l.length=j+f->(if(l.drop j).all (λs=>decide (s.length<=500))=true then(0:Int)else 1)=R->v.s 0= .slice nl [] (strsD l)->v.s 3= .int .i64 (j:Int)->A9 S [] Ms Q v g
 |0,j,v,g,hf,hR,h0,h3=>by
  refine Af Ms.eq_1 ?_;have p:((j:Int)<l.length)=False:=eq_false O;rw[QR O]at hR;have r:=AM l;simp only[GC,↓C2,Gy,simprocAttr,h0,h3,p,r];exact c _ hR.symm
 |f+1,j,v,g,hf,hR,h0,h3=>by
  have ih:=Wn (S:=S) (nl:=nl) hl a c f (j+1);refine Af Ms.eq_1 ?_;have p:((j:Int)<l.length)=True:=eq_true O;have u:j<l.length:=O
  have q:=C_ u;have r:=AM l;rw[QB u,Zu]at hR;generalize l[j]=x at q hR;obtain⟨i,t,b⟩:=v;simp only at h0 h3;have w:=nJ (j:=j);have z:IntKind.i64.wrap ((j:Int)+1)=((j+1:Nat):Int):=GZ O O;by_cases o:x.length<=500
  ·have c1:((500:Int)<(x.length:Int))=False:=eq_false O;rw[decide_eq_true o,Zv]at hR;simp only[GC,↓C2,Gy,simprocAttr,h0,h3,p,r,w,Qj,q,z,c1];exact ih _ _ O hR h0 rfl
  ·have c1:((500:Int)<(x.length:Int))=True:=eq_true O;rw[decide_eq_false o,Bool.false_and]at hR;simp only[Bool.false_eq_true,if_false]at hR;subst hR;simp only[GC,↓C2,Gy,simprocAttr,h0,h3,p,r,w,Qj,q,z,c1];exact a _ rfl
def aDZ(nl:Bool)(l:List Bs):aD0 [.slice nl [] (strsD l)]=some (.int .i64 (VW l)):=by
 refine Al (Qa rfl) ?_;unfold aB3;have r:=AM l;unfold VW;by_cases o:40<l.length
 ·rw[if_pos o];have c1:((40:Int)<(l.length:Int))=True:=eq_true O;simp only[GC,↓C2,Gy,simprocAttr,r,c1]
  all_goals exact YR
 ·rw[if_neg o];have c1:((40:Int)<(l.length:Int))=False:=eq_false O;simp only[GC,↓C2,Gy,simprocAttr,r,c1];refine Wn (nl:=nl) O (R:=if l.all (λs=>decide (s.length<=500))=true then(0:Int)else 1) (λq y=>?_) (λq h=>?_) l.length 0 _ _ O rfl rfl rfl
  ·simp only[GC,↓C2,Gy,simprocAttr,y]
   all_goals exact YR
  ·rw[h];simp only[GC,↓C2,Gy,simprocAttr]
   all_goals exact YR
def aGj(b:Bool):0<=BD b∧BD b<=99:=by cases b<;>decide
def aFs(s:Bs):0<=(Eo s).2.2∧(Eo s).2.2<=99:=by
 have:=TH ((splitC 44 s).map N2);unfold Eo
 repeat' split
 all_goals simp only
 all_goals omega
def aFr(s:Bs)(h:(Eo s).1=true):(Eo s).2.1=[]:=by
 unfold Eo at h ⊢
 repeat' split
 all_goals first|rfl|(simp_all;done)
def aJt{α:Type}(P:α->Prop){c:Prop}[Decidable c]{x y:α}(u:P x)(f:P y):P (if c then x else y):=by
 split
 ·exact u
 ·exact f
def xP(a:Ak)(c:Int)(s:Bs):0<=(A8 a c s).2∧(A8 a c s).2<=99:=by
 unfold A8
 repeat' refine aJt (λz:Ak×Int=>0<=z.2∧z.2<=99) ?_ ?_
 all_goals dsimp only
 all_goals with_reducible first|exact SN _ _|exact aGj _|exact aFs _|exact⟨V,V⟩
def aMZ{a:Ak}(j:I2 a){c:Int}{s:Bs}(i:s.length<=400):I2 (A8 a c s).1:=by
 have y:=xV s i;have p:=aFr s;have h:F4 (A8 a c s).1.rs∧((A8 a c s).1.nlr=true->(A8 a c s).1.rs=[]):=by
  unfold A8
  repeat' refine aJt (λz:Ak×Int=>F4 z.1.rs∧(z.1.nlr=true->z.1.rs=[])) ?_ ?_
  all_goals first|exact⟨j.cap,j.nlr⟩|exact⟨λr n=>(y.2 r n).2,p⟩
 exact⟨TA j.ok i,h.1,h.2⟩
def aCu{op:Int}(f:0<=op)(h:op<=18):I2 {akZ with op:=op}:={ok:=aCC f h,cap:=λr n=>(by cases n),nlr:=λ_=>rfl}
def cJ:I2 akZ:=aCu (op:=0) V V
def lC:∀(ls:Bs)(p:List Bs){a:Ak},I2 a->(∀w∈p,w.length<=400)->I2 (AG a ls p).1∧0<=(AG a ls p).2∧(AG a ls p).2<=99
 |[],_,a,ha,_=>⟨ha,XY,XY⟩
 |_::_,[],a,_,_=>⟨cJ,XY,XY⟩
 |c::ls,w::p,a,ha,hw=>by
  have u:=xP a (c.toNat:Int) w;simp only[AG];split
  ·exact⟨cJ,u.1,u.2⟩
  ·exact lC ls p (aMZ ha (hw w Qy)) λx q=>hw x (Qv _ q)
def NW(s:Bs):I2 (Cd s).1∧0<=(Cd s).2∧(Cd s).2<=99:=by
 unfold Cd;split
 ·exact⟨cJ,V,V⟩
 split
 ·exact⟨cJ,V,V⟩
 split
 ·exact⟨cJ,V,V⟩
 ·have h:=yD ((splitC 32 s).getD 0 []);refine lC _ _ (aCu h.1 h.2) λw k=>?_
  have:=FI s w (List.mem_of_mem_drop k);omega
structure aLR (m:Md) (s:Bs) (m':Md) (y:Ry):Prop where
 run:B2 [.agg (GP m),.str s]=some (.tup [.agg (GP m'),.str (Hg y)])
 e:LE y=0
 n:ryN y
 md:N8 m'
 room:m'.room=m.room
 key:m'.vw.key=m.vw.key
 fl:(∃e,y= .fail e)->m'=m
 bad:(Cd s).2≠0->y= .fail (Cd s).2∧m'=m
 ro:((Cd s).1.op=1∨(Cd s).1.op=9∨(Cd s).1.op=14∨(Cd s).1.op=17)->m'=m
def Vy{m:Md}(t:N8 m)(c:m.room≠0)(s:Bs)(hl:s.length<=1000000):∃m' y,aLR m s m' y:=by
 obtain⟨x,v,b2⟩:=NW s;by_cases n:(Cd s).2=0
 ·obtain⟨z,X,_⟩:=aGn t.vw x;have hp:Cd s=((Cd s).1,0):=ZA rfl n;have q:=IU c hl hp t X;obtain⟨g,k,w,p⟩:=TK t X;have o:Iy m.vw (Cd s).1 (FP z m):=by rw[p];exact X.rep k w (by rw[←p];exact g)
  obtain⟨u,f,a,⟨y,j,b,e3,e⟩,r⟩:=On t o;rw[e3]at q;exact⟨_,y,q,j,b,u,f,a,e,λh=>absurd n h,r⟩
 ·exact⟨m,.fail (Cd s).2,oL c hl rfl ⟨O,b2⟩,if_pos ⟨O,b2⟩,trivial,t,rfl,rfl,λ_=>rfl,λ_=>⟨rfl,rfl⟩,λ_=>rfl⟩
def N8.same{m:Md}(h:N8 m):Ld [.agg (GP m),.agg (GP m)]=some (.bool true):=
 oK m (Qe h.vw.ml V) (Qe h.vw.kl V) (λk s=>(h.vw.ok.kp k s).1.1) h.tr.ord (Qe h.tr.cnt V)
def qQ:RQ [Cx]:=by
 refine⟨λi j u y=>by simp at y;omega,⟨λs=>if s=[]then 0 else 1,⟨λt k=>?_,λt k=>?_,List.pairwise_singleton _ _⟩,rfl⟩,λt k=>?_,λt k=>?_,λt k _=>?_,λt k _=>?_⟩
 ·rw[Qn.1 k];decide
 ·rw[Qn.1 k];decide
 ·rw[Qn.1 k];decide
 ·rw[Qn.1 k];exact .inl rfl
 ·rw[Qn.1 k];rfl
 ·rw[Qn.1 k];rfl
def aOa(z:Bs):G6 (aF8 z false):=
 ⟨⟨Qs _,λm t=>(by cases t),Qa rfl,λk s=>(by rw[Qn.1 s];exact⟨⟨V,λh=>Xd⟩,V,λr n=>X3,λr n=>X3⟩)⟩,qQ,λi j u y=>absurd y (by show ¬j<0;omega),λ_=>rfl,⟨Q0 1,(by show(1:Int)<=6;decide)⟩,Qa rfl,Qs _,λm t=>(by cases t)⟩
def aI1{r:Int}(f:0<=r)(u:r<65536):N8 (Pn Ho (300+r)):=⟨aOa _,mE (by show(300:Int)<=300+r;omega) (by show(300:Int)+r<=70000;omega)⟩
def CV(l:List Bs):Nat:=(l.map λw=>1+w.length).sum
def IG{q:UInt8}:∀s:Bs,CV (splitC q s)=s.length+1
 |[]=>by simp[splitC,CV]
 |c::r=>by
  have ih:=IG (q:=q) r;have i:=Dd (q:=q) r;unfold splitC;split
  ·simp only[CV,Ql,Qm,Qf,Qb]at ih ⊢;omega
  ·cases h:splitC q r with
   |nil=>exact absurd h i
   |cons x t=>
    rw[h]at ih;simp only[CV,Ql,Qm,Qb]at ih ⊢;omega
def M6:∀{l:List Bs},l≠[]->(Bu l).length+1=CV l
 |[],h=>absurd rfl h
 |[x],_=>by simp[Bu,CV];omega
 |x::y::r,_=>by
  have ih:=M6 (l:=y::r) U;have e:Bu (x::y::r)=x++44::Bu (y::r):=by simp[Bu]
  rw[e];simp only[CV,Ql,Qm,Qd,Qb]at ih ⊢;omega
def eD:∀{l m:List Bs},l.length=m.length->(∀i,i<l.length->(l.getD i []).length<=(m.getD i []).length)->CV l<=CV m
 |[],[],_,_=>Qg _
 |[],_::_,h,_=>Xe
 |_::_,[],h,_=>Xe
 |x::l,y::m,h,hh=>by
  have f:=hh 0 U;have ih:=eD (l:=l) (m:=m) Xp λi hi=>by simpa using hh (i+1) XO
  simp only[CV,Ql,Qm]at ih ⊢;simp at f;omega
def OX:∀(n:Nat)(s x:Bs),s.length<=n->Cz s=some x->s.length=2*x.length
 |0,s,x,h,e=>by
  match s,h with
  |[],_=>cases e;rfl
 |n+1,s,x,h,e=>by
  match s,h,e with
  |[],_,e=>cases e;rfl
  |[_],_,e=>cases e
  |a::b::r,h,e=>
   rw[LK]at e;split at e
   ·cases e
   ·obtain⟨y,o,rfl⟩:=QY.1 e;have:=OX n r y Yb o;simp only[Qb];omega
def EA(s:Bs):(BQ s).length=2*s.length:=by
 induction s with
 |nil=>rfl
 |cons c r ih=>
  show([_,_]++BQ r).length=_;rw[Qd,ih];simp only[Qb,Qf];omega
def aNq:∀o:Fin 64,∀k:Fin 6,(Go.Ve.lettersN (o.val|||2 ^ k.val)).length<=(Go.Ve.lettersN o.val).length+1∧(o.val|||2 ^ k.val)<64:=Xj
def bU(s:Bs):∀(f p k o:Nat),k<=6->o<64->p+f=s.length->(PX s f p k o).2=true->(Go.Ve.lettersN (PX s f p k o).1).length<=(Go.Ve.lettersN o).length+f
 |0,p,k,o,hk6,ho,hf,h=>by simp[PX]
 |f+1,p,k,o,hk6,ho,hf,h=>by
  unfold PX at h ⊢;rw[if_pos O]at h ⊢;by_cases c:C0 (GT s p) (6-k) k=6
  ·rw[if_pos c]at h;cases h
  ·rw[if_neg c]at h ⊢;have w:C0 (GT s p) (6-k) k<6:=by
    have:=(Of (GT s p) (6-k) k hk6).2;omega
   have u:=aNq ⟨o,ho⟩ ⟨_,w⟩;simp only at u;have:=bU s f (p+1) _ _ O u.2 O h;omega
def lL(s:Bs)(r:s.length<=3):∀(f p:Nat)(n:Int),0<=n->n<=bN p->p+f=s.length->vE s f p n<=bN s.length
 |0,p,n,h0,h1,h2=>by unfold vE;rw[←h2];exact h1
 |f+1,p,n,h0,h1,h2=>by
  unfold vE;rw[if_pos O];split
  ·exact lL s r f (p+1) _ O (UJ h1 O O) O
  ·have:0<=bN s.length:=by unfold bN;repeat' split<;>omega
   omega
def TU{s:Bs}(h:0<=Hi s):(Dx (Hi s).toNat).length<=s.length∧1<=s.length:=by
 unfold Hi at h ⊢;split at h
 ·omega
 rename_i o;rw[if_neg o];simp only[not_or]at o;have u:1<=s.length:=by cases s with|nil=>exact absurd rfl o.1|cons=>simp
 have m:=lL s O s.length 0 0 (Q0 _) V O;refine⟨?_,u⟩;generalize vE s s.length 0 0=x at *;unfold Dx;rcases(by omega:s.length=1∨s.length=2∨s.length=3)with e|e|e<;>rw[e]at m ⊢
 ·rw[show bN 1=9 from rfl]at m;rw[if_pos O];simp
 ·rw[show bN 2=99 from rfl]at m;split
  ·simp
  ·rw[if_pos O];simp
 ·repeat' split
  all_goals simp
def SL{b:Bool}(h:BD b=0):b=true:=by cases b with|true=>rfl|false=>exact absurd h V
def TM(x:Bs):(U8 x).length<=max 1 x.length:=by
 unfold U8;split
 ·exact Nat.le_max_left _ _
 ·exact Nat.le_max_right _ _
def zX{s:Bs}(h:countB ((splitC 44 s).map Hi)=true):(U8 (Bu (CD ((splitC 44 s).map Hi)))).length<=s.length:=by
 unfold countB at h;simp only[QE,decide_eq_true_eq,Bool.not_eq_true',List.any_eq_false,QQ]at h;have p:∀w∈splitC 44 s,0<=Hi w:=λw k=>by
  have:=h.2 (Hi w) ⟨w,k,rfl⟩;simp at this;omega
 have c:=Dd (q:=44) s;have j:=IG (q:=44) s;have u:1<=s.length:=by
  cases s with
  |nil=>exact absurd (p [] (by simp[splitC])) V
  |cons=>simp
 have e:CD ((splitC 44 s).map Hi)=(splitC 44 s).map λw=>Dx (Hi w).toNat:=by simp[CD,Zp,Function.comp_def]
 have z:=M6 (l:=CD ((splitC 44 s).map Hi)) (by rw[e];simpa using c);have hl:CV (CD ((splitC 44 s).map Hi))<=CV (splitC 44 s):=eD (by rw[e,Qu]) λi hi=>by
  rw[e]at hi ⊢;rw[Qu]at hi;rw[QL,QL,QF,Qc hi];exact(TU (p _ (QD hi))).1
 have:=TM (Bu (CD ((splitC 44 s).map Hi)));omega
def wX{x:Bs}(h:H7 x=true):(NE (N2 x)).length<=x.length:=by
 unfold H7 at h;simp only[QE]at h;obtain⟨u,y⟩:=h;unfold NE N2;have v:(LA (Bv x 58).2.1).2=true:=y;have hl:=bU (Bv x 58).2.1 (Bv x 58).2.1.length 0 0 0 V V O v;have a:(Go.Ve.lettersN 0).length=0:=rfl;have q:(Bv x 58).1.length+1+(Bv x 58).2.1.length=x.length:=by
  unfold Bv at u ⊢;split at u
  ·cases u
  ·rename_i hi;rw[if_neg hi];have w:(Lib.indexByte x 58).toNat<x.length:=(Q7.1 (Lib.indexByte_some (l:=x) (c:=58) (o:=(Lib.indexByte x 58).toNat) O).1).1;simp only[Zr,List.length_drop];omega
 simp only[Qd,Qb,Qf,Qj];have:(Go.Ve.lettersN (LA (Bv x 58).2.1).1).length<=(Bv x 58).2.1.length:=by unfold LA;omega
 omega
def qO{s:Bs}(r:s≠[])(h:(Eo s).2.2=0):(U8 (if B3 (Eo s).2.1=0 then Bu (Bg (Eo s).2.1)else [])).length<=s.length∧B3 (Eo s).2.1=0:=by
 unfold Eo at h ⊢;rw[if_neg r]at h ⊢;by_cases u:(splitC 44 s).all H7=false
 ·rw[if_pos u]at h;exact absurd h V
 rw[if_neg u]at h ⊢;by_cases y:B3 ((splitC 44 s).map N2)≠0
 ·rw[if_pos y]at h;exact absurd h y
 rw[if_neg y];have k:=Decidable.not_not.1 y;have z:(splitC 44 s).all H7=true:=Xu
 refine⟨?_,k⟩;rw[if_pos k];have c:=Dd (q:=44) s;have o:=IG (q:=44) s;have j:1<=s.length:=by cases s with|nil=>exact absurd rfl r|cons=>simp
 have e:Bg ((splitC 44 s).map N2)=(splitC 44 s).map λw=>NE (N2 w):=by simp[Bg,Zp,Function.comp_def]
 have p:=M6 (l:=Bg ((splitC 44 s).map N2)) (by rw[e];simpa using c);have hl:CV (Bg ((splitC 44 s).map N2))<=CV (splitC 44 s):=eD (by rw[e,Qu]) λi hi=>by
  rw[e]at hi ⊢;rw[Qu]at hi;rw[QL,QL,QF,Qc hi];exact wX (Za.1 z _ (QD hi))
 have:=TM (Bu (Bg ((splitC 44 s).map N2)));simp only;omega
def nA{a:Ak}:∀(ls:Bs)(b:Ak),(∀c∈ls,Bb a (c.toNat:Int)=0)->I_ a b ls=(0,ls.foldl (λb c=>CY b (c.toNat:Int)) b)
 |[],b,_=>rfl
 |c::r,b,h=>by
  unfold I_;rw[if_neg (λe=>e (h c Qy))];exact nA r _ λx q=>h x (Qv _ q)
def By{a:Ak}(u:A2 a.op≠[])(y:∀c∈Bj a.op,Bb a (c.toNat:Int)=0)(p:OU ((Bj a.op).foldl (λb c=>CY b (c.toNat:Int)) (HH a))=true)(n:(L5 a).length<=400):BO a=0:=by
 unfold BO;rw[if_neg u,nA _ _ y];simp only[p];rw[if_neg V,if_neg V,if_neg O]
def VX(w:Bs):∀(f k:Nat),yF w f k≠0->A2 (yF w f k)=w
 |0,k,h=>absurd rfl h
 |f+1,k,h=>by
  unfold yF at h ⊢;by_cases c:A2 (k:Int)=w
  ·rw[if_pos c];exact c
  ·rw[if_neg c]at h ⊢;exact VX w f (k+1) h
def Ao{a:Ak}{c:UInt8}{ls:Bs}{w:Bs}{p:List Bs}{b:Ak}(h:AG a (c::ls) (w::p)=(b,0)):(A8 a (c.toNat:Int) w).2=0∧AG (A8 a (c.toNat:Int) w).1 ls p=(b,0):=by
 simp only[AG]at h;by_cases e:(A8 a (c.toNat:Int) w).2=0
 ·rw[if_neg (λh=>h e)]at h;exact⟨e,h⟩
 ·rw[if_pos e]at h;exact absurd (Zx.1 h).2 e
def Bd{a b:Ak}{p:List Bs}(h:AG a [] p=(b,0)):b=a:=((Zx.1 h).1).symm
def IY{a:Ak}{w:Bs}(h:(A8 a 116 w).2=0):(A8 a 116 w).1={a with tk:=w}∧BD (BM w)=0:=⟨rfl,h⟩
def N4{a:Ak}{w:Bs}(h:(A8 a 112 w).2=0):(A8 a 112 w).1={a with pa:=w}∧AP w=0:=⟨rfl,h⟩
def aQD{a:Ak}{w:Bs}(h:(A8 a 109 w).2=0):(A8 a 109 w).1={a with ot:=w}∧BD (BM w)=0:=⟨rfl,h⟩
def aUS{a:Ak}{w:Bs}(h:(A8 a 113 w).2=0):(A8 a 113 w).1={a with ot:=w}∧AP w=0:=⟨rfl,h⟩
def aM1{a:Ak}{w:Bs}(h:(A8 a 110 w).2=0):(A8 a 110 w).1={a with n:=Hi w}∧BD (decide (0<=Hi w∧Hi w<=999))=0∧(Dx (Hi w).toNat).length<=w.length:=by
 have g:BD (decide (0<=Hi w∧Hi w<=999))=0:=h;have:=of_decide_eq_true (SL g);exact⟨rfl,g,(TU this.1).1⟩
def aUV{a:Ak}{w:Bs}(h:(A8 a 99 w).2=0):∃x,(A8 a 99 w).1={a with cas:=x}∧BD (decide (-1<=x∧x<=999))=0∧(if x=-1 then [45]else Dx x.toNat).length<=w.length:=by
 have g:BD (decide (w=[45])||decide (0<=Hi w))=0:=h;refine⟨if w=[45]then-1 else Hi w,rfl,?_⟩;by_cases k:w=[45]
 ·subst k;exact⟨rfl,Qg _⟩
 ·have y:=SL g;rw[decide_eq_false k,Bool.false_or]at y;have p:=of_decide_eq_true y;have n:=aRH w;rw[if_neg k];refine⟨by rw[decide_eq_true ⟨O,n.2⟩];rfl,?_⟩;rw[if_neg O];exact(TU p).1
def aQE{a:Ak}{w:Bs}(h:(A8 a 102 w).2=0):∃b,(A8 a 102 w).1={a with fl:=b}∧(if b=true then [49]else [48]:Bs).length<=w.length:=by
 have g:BD (decide (w=[49])||decide (w=[48]))=0:=h;have y:=SL g;simp only[Bool.or_eq_true,decide_eq_true_eq]at y;refine⟨decide (w=[49]),rfl,?_⟩;have u:w.length=1:=by rcases y with rfl|rfl<;>rfl
 rw[u];split<;>simp
def aM2{a:Ak}{w:Bs}(j:a.ns=[])(h:(A8 a 108 w).2=0):∃nl ns,(A8 a 108 w).1={a with nln:=nl,ns:=ns}∧BD (countB ns)=0∧(U8 (Bu (CD ns))).length<=w.length:=by
 by_cases k:w=[45]
 ·subst k;refine⟨a.nln,[],?_,rfl,Qg _⟩;show a=_;obtain⟨a1,t,z,n,r,m,o,i,v,b,f,c,d⟩:=a;simp only at j;rw[j]
 ·have e:A8 a 108 w=({a with nln:=false,ns:=(splitC 44 w).map Hi},Bb {a with nln:=false,ns:=(splitC 44 w).map Hi} 108):=if_neg k;rw[e]at h ⊢;have g:BD (countB ((splitC 44 w).map Hi))=0:=h;exact⟨_,_,rfl,g,zX (SL g)⟩
def aUU{a:Ak}{w:Bs}(j:a.da=[])(h:(A8 a 100 w).2=0):∃da,(A8 a 100 w).1={a with da:=da}∧(U8 (BQ da)).length<=w.length:=by
 by_cases k:w=[45]
 ·subst k;refine⟨[],?_,Qg _⟩;show a=_;obtain⟨a1,t,z,m,r,g,o,u,v,b,f,c,d⟩:=a;simp only at j;rw[j]
 ·have e:A8 a 100 w=({a with da:=(Cz w).getD []},BD ((Cz w).isSome&&decide (w≠[]))):=if_neg k;rw[e]at h ⊢;have y:=SL h;simp only[QE,decide_eq_true_eq,Q8]at y;obtain⟨⟨x,q⟩,i⟩:=y;have p:=OX _ w x (Qg _) q;have n:=TM (BQ x);rw[EA]at n;have s:1<=w.length:=by cases w with|nil=>exact absurd rfl i|cons=>simp
  refine⟨_,rfl,?_⟩;rw[q];simp only[QI];omega
def aUR{a:Ak}{w:Bs}(j:a.rs=[])(h:(A8 a 114 w).2=0):∃nl rs,(A8 a 114 w).1={a with nlr:=nl,rs:=rs}∧B3 rs=0∧(U8 (if B3 rs=0 then Bu (Bg rs)else [])).length<=w.length:=by
 by_cases k:w=[45]
 ·subst k;refine⟨a.nlr,[],?_,rfl,Qg _⟩;show a=_;obtain⟨a1,t,z,n,r,m,o,i,v,b,f,c,d⟩:=a;simp only at j;rw[j]
 ·by_cases g:w=[]
  ·subst g;exact absurd (show(4:Int)=0 from h) V
  ·have e:A8 a 114 w=({a with nlr:=(Eo w).1,rs:=(Eo w).2.1},(Eo w).2.2):=(if_neg k).trans (if_neg g);rw[e]at h ⊢;obtain⟨u,y⟩:=qO g h;exact⟨_,_,rfl,y,u⟩
def aUT{a:Ak}{w:Bs}(h:(A8 a 107 w).2=0):∃key,(A8 a 107 w).1={a with key:=key}∧BD (decide ((key.length:Int)=16))=0∧(BQ key).length<=w.length∧Cz w=some key:=by
 have g:BD ((Cz w).isSome&&decide ((((Cz w).getD []).length:Int)=16))=0:=h;have y:=SL g;simp only[QE,Q8]at y;obtain⟨⟨x,q⟩,hl⟩:=y;refine⟨x,?_,?_,?_,q⟩
 ·show {a with key:=(Cz w).getD []}=_;rw[q];rfl
 ·rw[q]at hl;rw[show decide ((x.length:Int)=16)=true from hl];rfl
 ·rw[EA];exact Zb (OX _ w x (Qg _) q).symm
def qF{w0:Bs}{wr:List Bs}{op:Int}{a:Ak}(u:1<=op)(y:op<=18)(b:A2 op=w0)(g:(w0::wr).length=1+(Bj op).length)(r:CV (w0::wr)<=401)(h:AG {akZ with op:=op} (Bj op) wr=(a,0)):a.op=op∧BO a=0:=by
 rcases(by omega:op=1∨op=2∨op=3∨op=4∨op=5∨op=6∨op=7∨op=8∨op=9∨op=10∨op=11∨op=12∨op=13∨op=14∨op=15∨op=16∨op=17∨op=18)with rfl|rfl|rfl|rfl|rfl|rfl|rfl|rfl|rfl|rfl|rfl|rfl|rfl|rfl|rfl|rfl|rfl|rfl
 ·replace h:AG {akZ with op:=1} [] wr=(a,0):=h;replace g:(w0::wr).length=1+0:=g;obtain rfl:wr=[]:=by simpa using g
  obtain rfl:=Bd h;clear h;refine⟨rfl,By (show A2 1≠[]by decide) (λc o=>(by cases o)) rfl ?_⟩
  ·show(A2 1++[]).length<=400;rw[b];simp only[CV,Ql,Qt,Qm,Qw]at r;simp only[Qd,Qb,Qf];omega
 ·replace h:AG {akZ with op:=2} [107] wr=(a,0):=h;replace g:(w0::wr).length=1+1:=g;obtain⟨t,rfl⟩:∃t,wr=[t]:=by
   match wr,g with
   |[t],_=>exact⟨_,rfl⟩
  obtain⟨j,h⟩:=Ao h;obtain⟨x1,v,i,l1,_⟩:=aUT j;replace h:=(congrArg (λz=>AG z [] []) v).symm.trans h;dsimp only at h;clear j v;obtain rfl:=Bd h;clear h;refine⟨rfl,By (show A2 2≠[]by decide) (λc o=>?_) rfl ?_⟩
  ·replace o:c∈([107]:Bs):=o;simp only[Qq,Qp,or_false]at o;rcases o with rfl
   ·exact i
  ·show(A2 2++((32::(BQ x1))++[])).length<=400;rw[b];simp only[CV,Ql,Qt,Qm,Qw]at r;simp only[Qd,Qb,Qf];omega
 ·replace h:AG {akZ with op:=3} [116] wr=(a,0):=h;replace g:(w0::wr).length=1+1:=g;obtain⟨t,rfl⟩:∃t,wr=[t]:=by
   match wr,g with
   |[t],_=>exact⟨_,rfl⟩
  obtain⟨j,h⟩:=Ao h;obtain⟨v,i⟩:=IY j;replace h:=(congrArg (λz=>AG z [] []) v).symm.trans h;dsimp only at h;clear j v;obtain rfl:=Bd h;clear h;refine⟨rfl,By (show A2 3≠[]by decide) (λc o=>?_) rfl ?_⟩
  ·replace o:c∈([116]:Bs):=o;simp only[Qq,Qp,or_false]at o;rcases o with rfl
   ·exact i
  ·show(A2 3++((32::(t))++[])).length<=400;rw[b];simp only[CV,Ql,Qt,Qm,Qw]at r;simp only[Qd,Qb,Qf];omega
 ·replace h:AG {akZ with op:=4} [116] wr=(a,0):=h;replace g:(w0::wr).length=1+1:=g;obtain⟨t,rfl⟩:∃t,wr=[t]:=by
   match wr,g with
   |[t],_=>exact⟨_,rfl⟩
  obtain⟨j,h⟩:=Ao h;obtain⟨v,i⟩:=IY j;replace h:=(congrArg (λz=>AG z [] []) v).symm.trans h;dsimp only at h;clear j v;obtain rfl:=Bd h;clear h;refine⟨rfl,By (show A2 4≠[]by decide) (λc o=>?_) rfl ?_⟩
  ·replace o:c∈([116]:Bs):=o;simp only[Qq,Qp,or_false]at o;rcases o with rfl
   ·exact i
  ·show(A2 4++((32::(t))++[])).length<=400;rw[b];simp only[CV,Ql,Qt,Qm,Qw]at r;simp only[Qd,Qb,Qf];omega
 ·replace h:AG {akZ with op:=5} [116,112,110,102] wr=(a,0):=h;replace g:(w0::wr).length=1+4:=g;obtain⟨t,p,k,q,rfl⟩:∃t p k q,wr=[t,p,k,q]:=by
   match wr,g with
   |[t,p,k,q],_=>exact⟨_,_,_,_,rfl⟩
  obtain⟨j,h⟩:=Ao h;obtain⟨v,i⟩:=IY j;replace h:=(congrArg (λz=>AG z [112,110,102] [p,k,q]) v).symm.trans h;dsimp only at h;clear j v;obtain⟨m,h⟩:=Ao h;obtain⟨x,e⟩:=N4 m;replace h:=(congrArg (λz=>AG z [110,102] [k,q]) x).symm.trans h;dsimp only at h;clear m x;obtain⟨f,h⟩:=Ao h;obtain⟨s,f3,l3⟩:=aM1 f;replace h:=(congrArg (λz=>AG z [102] [q]) s).symm.trans h;dsimp only at h;clear f s;obtain⟨w,h⟩:=Ao h;obtain⟨x4,g4,l4⟩:=aQE w;replace h:=(congrArg (λz=>AG z [] []) g4).symm.trans h;dsimp only at h;clear w g4;obtain rfl:=Bd h;clear h;refine⟨rfl,By (show A2 5≠[]by decide) (λc o=>?_) rfl ?_⟩
  ·replace o:c∈([116,112,110,102]:Bs):=o;simp only[Qq,Qp,or_false]at o;rcases o with rfl|rfl|rfl|rfl
   ·exact i
   ·exact e
   ·exact f3
   ·rfl
  ·show(A2 5++((32::(t))++((32::(p))++((32::(Dx (Hi k).toNat))++((32::((if x4=true then [49]else [48]:Bs)))++[]))))).length<=400;rw[b];simp only[CV,Ql,Qt,Qm,Qw]at r;simp only[Qd,Qb,Qf];omega
 ·replace h:AG {akZ with op:=6} [116,112] wr=(a,0):=h;replace g:(w0::wr).length=1+2:=g;obtain⟨t,p,rfl⟩:∃t p,wr=[t,p]:=by
   match wr,g with
   |[t,p],_=>exact⟨_,_,rfl⟩
  obtain⟨j,h⟩:=Ao h;obtain⟨v,i⟩:=IY j;replace h:=(congrArg (λz=>AG z [112] [p]) v).symm.trans h;dsimp only at h;clear j v;obtain⟨m,h⟩:=Ao h;obtain⟨x,e⟩:=N4 m;replace h:=(congrArg (λz=>AG z [] []) x).symm.trans h;dsimp only at h;clear m x;obtain rfl:=Bd h;clear h;refine⟨rfl,By (show A2 6≠[]by decide) (λc o=>?_) rfl ?_⟩
  ·replace o:c∈([116,112]:Bs):=o;simp only[Qq,Qp,or_false]at o;rcases o with rfl|rfl
   ·exact i
   ·exact e
  ·show(A2 6++((32::(t))++((32::(p))++[]))).length<=400;rw[b];simp only[CV,Ql,Qt,Qm,Qw]at r;simp only[Qd,Qb,Qf];omega
 ·replace h:AG {akZ with op:=7} [116,109,114] wr=(a,0):=h;replace g:(w0::wr).length=1+3:=g;obtain⟨t,p,k,rfl⟩:∃t p k,wr=[t,p,k]:=by
   match wr,g with
   |[t,p,k],_=>exact⟨_,_,_,rfl⟩
  obtain⟨j,h⟩:=Ao h;obtain⟨v,i⟩:=IY j;replace h:=(congrArg (λz=>AG z [109,114] [p,k]) v).symm.trans h;dsimp only at h;clear j v;obtain⟨m,h⟩:=Ao h;obtain⟨x,e⟩:=aQD m;replace h:=(congrArg (λz=>AG z [114] [k]) x).symm.trans h;dsimp only at h;clear m x;obtain⟨f,h⟩:=Ao h;obtain⟨y3,n,s,f3,l3⟩:=aUR rfl f;replace h:=(congrArg (λz=>AG z [] []) s).symm.trans h;dsimp only at h;clear f s;obtain rfl:=Bd h;clear h;refine⟨rfl,By (show A2 7≠[]by decide) (λc o=>?_) rfl ?_⟩
  ·replace o:c∈([116,109,114]:Bs):=o;simp only[Qq,Qp,or_false]at o;rcases o with rfl|rfl|rfl
   ·exact i
   ·exact e
   ·exact f3
  ·show(A2 7++((32::(t))++((32::(p))++((32::(U8 (if B3 n=0 then Bu (Bg n)else [])))++[])))).length<=400;rw[b];simp only[CV,Ql,Qt,Qm,Qw]at r;simp only[Qd,Qb,Qf];omega
 ·replace h:AG {akZ with op:=8} [116,109] wr=(a,0):=h;replace g:(w0::wr).length=1+2:=g;obtain⟨t,p,rfl⟩:∃t p,wr=[t,p]:=by
   match wr,g with
   |[t,p],_=>exact⟨_,_,rfl⟩
  obtain⟨j,h⟩:=Ao h;obtain⟨v,i⟩:=IY j;replace h:=(congrArg (λz=>AG z [109] [p]) v).symm.trans h;dsimp only at h;clear j v;obtain⟨m,h⟩:=Ao h;obtain⟨x,e⟩:=aQD m;replace h:=(congrArg (λz=>AG z [] []) x).symm.trans h;dsimp only at h;clear m x;obtain rfl:=Bd h;clear h;refine⟨rfl,By (show A2 8≠[]by decide) (λc o=>?_) rfl ?_⟩
  ·replace o:c∈([116,109]:Bs):=o;simp only[Qq,Qp,or_false]at o;rcases o with rfl|rfl
   ·exact i
   ·exact e
  ·show(A2 8++((32::(t))++((32::(p))++[]))).length<=400;rw[b];simp only[CV,Ql,Qt,Qm,Qw]at r;simp only[Qd,Qb,Qf];omega
 ·replace h:AG {akZ with op:=9} [116,112,110] wr=(a,0):=h;replace g:(w0::wr).length=1+3:=g;obtain⟨t,p,k,rfl⟩:∃t p k,wr=[t,p,k]:=by
   match wr,g with
   |[t,p,k],_=>exact⟨_,_,_,rfl⟩
  obtain⟨j,h⟩:=Ao h;obtain⟨v,i⟩:=IY j;replace h:=(congrArg (λz=>AG z [112,110] [p,k]) v).symm.trans h;dsimp only at h;clear j v;obtain⟨m,h⟩:=Ao h;obtain⟨x,e⟩:=N4 m;replace h:=(congrArg (λz=>AG z [110] [k]) x).symm.trans h;dsimp only at h;clear m x;obtain⟨f,h⟩:=Ao h;obtain⟨s,f3,l3⟩:=aM1 f;replace h:=(congrArg (λz=>AG z [] []) s).symm.trans h;dsimp only at h;clear f s;obtain rfl:=Bd h;clear h;refine⟨rfl,By (show A2 9≠[]by decide) (λc o=>?_) rfl ?_⟩
  ·replace o:c∈([116,112,110]:Bs):=o;simp only[Qq,Qp,or_false]at o;rcases o with rfl|rfl|rfl
   ·exact i
   ·exact e
   ·exact f3
  ·show(A2 9++((32::(t))++((32::(p))++((32::(Dx (Hi k).toNat))++[])))).length<=400;rw[b];simp only[CV,Ql,Qt,Qm,Qw]at r;simp only[Qd,Qb,Qf];omega
 ·replace h:AG {akZ with op:=10} [116,112,99,100] wr=(a,0):=h;replace g:(w0::wr).length=1+4:=g;obtain⟨t,p,k,q,rfl⟩:∃t p k q,wr=[t,p,k,q]:=by
   match wr,g with
   |[t,p,k,q],_=>exact⟨_,_,_,_,rfl⟩
  obtain⟨j,h⟩:=Ao h;obtain⟨v,i⟩:=IY j;replace h:=(congrArg (λz=>AG z [112,99,100] [p,k,q]) v).symm.trans h;dsimp only at h;clear j v;obtain⟨m,h⟩:=Ao h;obtain⟨x,e⟩:=N4 m;replace h:=(congrArg (λz=>AG z [99,100] [k,q]) x).symm.trans h;dsimp only at h;clear m x;obtain⟨f,h⟩:=Ao h;obtain⟨n,s,f3,l3⟩:=aUV f;replace h:=(congrArg (λz=>AG z [100] [q]) s).symm.trans h;dsimp only at h;clear f s;obtain⟨w,h⟩:=Ao h;obtain⟨x4,g4,l4⟩:=aUU rfl w;replace h:=(congrArg (λz=>AG z [] []) g4).symm.trans h;dsimp only at h;clear w g4;obtain rfl:=Bd h;clear h;refine⟨rfl,By (show A2 10≠[]by decide) (λc o=>?_) rfl ?_⟩
  ·replace o:c∈([116,112,99,100]:Bs):=o;simp only[Qq,Qp,or_false]at o;rcases o with rfl|rfl|rfl|rfl
   ·exact i
   ·exact e
   ·exact f3
   ·rfl
  ·show(A2 10++((32::(t))++((32::(p))++((32::((if n=-1 then [45]else Dx n.toNat)))++((32::(U8 (BQ x4)))++[]))))).length<=400;rw[b];simp only[CV,Ql,Qt,Qm,Qw]at r;simp only[Qd,Qb,Qf];omega
 ·replace h:AG {akZ with op:=11} [116,112,108] wr=(a,0):=h;replace g:(w0::wr).length=1+3:=g;obtain⟨t,p,k,rfl⟩:∃t p k,wr=[t,p,k]:=by
   match wr,g with
   |[t,p,k],_=>exact⟨_,_,_,rfl⟩
  obtain⟨j,h⟩:=Ao h;obtain⟨v,i⟩:=IY j;replace h:=(congrArg (λz=>AG z [112,108] [p,k]) v).symm.trans h;dsimp only at h;clear j v;obtain⟨m,h⟩:=Ao h;obtain⟨x,e⟩:=N4 m;replace h:=(congrArg (λz=>AG z [108] [k]) x).symm.trans h;dsimp only at h;clear m x;obtain⟨f,h⟩:=Ao h;obtain⟨y3,n,s,f3,l3⟩:=aM2 rfl f;replace h:=(congrArg (λz=>AG z [] []) s).symm.trans h;dsimp only at h;clear f s;obtain rfl:=Bd h;clear h;refine⟨rfl,By (show A2 11≠[]by decide) (λc o=>?_) rfl ?_⟩
  ·replace o:c∈([116,112,108]:Bs):=o;simp only[Qq,Qp,or_false]at o;rcases o with rfl|rfl|rfl
   ·exact i
   ·exact e
   ·exact f3
  ·show(A2 11++((32::(t))++((32::(p))++((32::(U8 (Bu (CD n))))++[])))).length<=400;rw[b];simp only[CV,Ql,Qt,Qm,Qw]at r;simp only[Qd,Qb,Qf];omega
 ·replace h:AG {akZ with op:=12} [116,112,108] wr=(a,0):=h;replace g:(w0::wr).length=1+3:=g;obtain⟨t,p,k,rfl⟩:∃t p k,wr=[t,p,k]:=by
   match wr,g with
   |[t,p,k],_=>exact⟨_,_,_,rfl⟩
  obtain⟨j,h⟩:=Ao h;obtain⟨v,i⟩:=IY j;replace h:=(congrArg (λz=>AG z [112,108] [p,k]) v).symm.trans h;dsimp only at h;clear j v;obtain⟨m,h⟩:=Ao h;obtain⟨x,e⟩:=N4 m;replace h:=(congrArg (λz=>AG z [108] [k]) x).symm.trans h;dsimp only at h;clear m x;obtain⟨f,h⟩:=Ao h;obtain⟨y3,n,s,f3,l3⟩:=aM2 rfl f;replace h:=(congrArg (λz=>AG z [] []) s).symm.trans h;dsimp only at h;clear f s;obtain rfl:=Bd h;clear h;refine⟨rfl,By (show A2 12≠[]by decide) (λc o=>?_) rfl ?_⟩
  ·replace o:c∈([116,112,108]:Bs):=o;simp only[Qq,Qp,or_false]at o;rcases o with rfl|rfl|rfl
   ·exact i
   ·exact e
   ·exact f3
  ·show(A2 12++((32::(t))++((32::(p))++((32::(U8 (Bu (CD n))))++[])))).length<=400;rw[b];simp only[CV,Ql,Qt,Qm,Qw]at r;simp only[Qd,Qb,Qf];omega
 ·replace h:AG {akZ with op:=13} [116,112,108] wr=(a,0):=h;replace g:(w0::wr).length=1+3:=g;obtain⟨t,p,k,rfl⟩:∃t p k,wr=[t,p,k]:=by
   match wr,g with
   |[t,p,k],_=>exact⟨_,_,_,rfl⟩
  obtain⟨j,h⟩:=Ao h;obtain⟨v,i⟩:=IY j;replace h:=(congrArg (λz=>AG z [112,108] [p,k]) v).symm.trans h;dsimp only at h;clear j v;obtain⟨m,h⟩:=Ao h;obtain⟨x,e⟩:=N4 m;replace h:=(congrArg (λz=>AG z [108] [k]) x).symm.trans h;dsimp only at h;clear m x;obtain⟨f,h⟩:=Ao h;obtain⟨y3,n,s,f3,l3⟩:=aM2 rfl f;replace h:=(congrArg (λz=>AG z [] []) s).symm.trans h;dsimp only at h;clear f s;obtain rfl:=Bd h;clear h;refine⟨rfl,By (show A2 13≠[]by decide) (λc o=>?_) rfl ?_⟩
  ·replace o:c∈([116,112,108]:Bs):=o;simp only[Qq,Qp,or_false]at o;rcases o with rfl|rfl|rfl
   ·exact i
   ·exact e
   ·exact f3
  ·show(A2 13++((32::(t))++((32::(p))++((32::(U8 (Bu (CD n))))++[])))).length<=400;rw[b];simp only[CV,Ql,Qt,Qm,Qw]at r;simp only[Qd,Qb,Qf];omega
 ·replace h:AG {akZ with op:=14} [116,112] wr=(a,0):=h;replace g:(w0::wr).length=1+2:=g;obtain⟨t,p,rfl⟩:∃t p,wr=[t,p]:=by
   match wr,g with
   |[t,p],_=>exact⟨_,_,rfl⟩
  obtain⟨j,h⟩:=Ao h;obtain⟨v,i⟩:=IY j;replace h:=(congrArg (λz=>AG z [112] [p]) v).symm.trans h;dsimp only at h;clear j v;obtain⟨m,h⟩:=Ao h;obtain⟨x,e⟩:=N4 m;replace h:=(congrArg (λz=>AG z [] []) x).symm.trans h;dsimp only at h;clear m x;obtain rfl:=Bd h;clear h;refine⟨rfl,By (show A2 14≠[]by decide) (λc o=>?_) rfl ?_⟩
  ·replace o:c∈([116,112]:Bs):=o;simp only[Qq,Qp,or_false]at o;rcases o with rfl|rfl
   ·exact i
   ·exact e
  ·show(A2 14++((32::(t))++((32::(p))++[]))).length<=400;rw[b];simp only[CV,Ql,Qt,Qm,Qw]at r;simp only[Qd,Qb,Qf];omega
 ·replace h:AG {akZ with op:=15} [116,112,110,102] wr=(a,0):=h;replace g:(w0::wr).length=1+4:=g;obtain⟨t,p,k,q,rfl⟩:∃t p k q,wr=[t,p,k,q]:=by
   match wr,g with
   |[t,p,k,q],_=>exact⟨_,_,_,_,rfl⟩
  obtain⟨j,h⟩:=Ao h;obtain⟨v,i⟩:=IY j;replace h:=(congrArg (λz=>AG z [112,110,102] [p,k,q]) v).symm.trans h;dsimp only at h;clear j v;obtain⟨m,h⟩:=Ao h;obtain⟨x,e⟩:=N4 m;replace h:=(congrArg (λz=>AG z [110,102] [k,q]) x).symm.trans h;dsimp only at h;clear m x;obtain⟨f,h⟩:=Ao h;obtain⟨s,f3,l3⟩:=aM1 f;replace h:=(congrArg (λz=>AG z [102] [q]) s).symm.trans h;dsimp only at h;clear f s;obtain⟨w,h⟩:=Ao h;obtain⟨x4,g4,l4⟩:=aQE w;replace h:=(congrArg (λz=>AG z [] []) g4).symm.trans h;dsimp only at h;clear w g4;obtain rfl:=Bd h;clear h;refine⟨rfl,By (show A2 15≠[]by decide) (λc o=>?_) rfl ?_⟩
  ·replace o:c∈([116,112,110,102]:Bs):=o;simp only[Qq,Qp,or_false]at o;rcases o with rfl|rfl|rfl|rfl
   ·exact i
   ·exact e
   ·exact f3
   ·rfl
  ·show(A2 15++((32::(t))++((32::(p))++((32::(Dx (Hi k).toNat))++((32::((if x4=true then [49]else [48]:Bs)))++[]))))).length<=400;rw[b];simp only[CV,Ql,Qt,Qm,Qw]at r;simp only[Qd,Qb,Qf];omega
 ·replace h:AG {akZ with op:=16} [116,112] wr=(a,0):=h;replace g:(w0::wr).length=1+2:=g;obtain⟨t,p,rfl⟩:∃t p,wr=[t,p]:=by
   match wr,g with
   |[t,p],_=>exact⟨_,_,rfl⟩
  obtain⟨j,h⟩:=Ao h;obtain⟨v,i⟩:=IY j;replace h:=(congrArg (λz=>AG z [112] [p]) v).symm.trans h;dsimp only at h;clear j v;obtain⟨m,h⟩:=Ao h;obtain⟨x,e⟩:=N4 m;replace h:=(congrArg (λz=>AG z [] []) x).symm.trans h;dsimp only at h;clear m x;obtain rfl:=Bd h;clear h;refine⟨rfl,By (show A2 16≠[]by decide) (λc o=>?_) rfl ?_⟩
  ·replace o:c∈([116,112]:Bs):=o;simp only[Qq,Qp,or_false]at o;rcases o with rfl|rfl
   ·exact i
   ·exact e
  ·show(A2 16++((32::(t))++((32::(p))++[]))).length<=400;rw[b];simp only[CV,Ql,Qt,Qm,Qw]at r;simp only[Qd,Qb,Qf];omega
 ·replace h:AG {akZ with op:=17} [116,112] wr=(a,0):=h;replace g:(w0::wr).length=1+2:=g;obtain⟨t,p,rfl⟩:∃t p,wr=[t,p]:=by
   match wr,g with
   |[t,p],_=>exact⟨_,_,rfl⟩
  obtain⟨j,h⟩:=Ao h;obtain⟨v,i⟩:=IY j;replace h:=(congrArg (λz=>AG z [112] [p]) v).symm.trans h;dsimp only at h;clear j v;obtain⟨m,h⟩:=Ao h;obtain⟨x,e⟩:=N4 m;replace h:=(congrArg (λz=>AG z [] []) x).symm.trans h;dsimp only at h;clear m x;obtain rfl:=Bd h;clear h;refine⟨rfl,By (show A2 17≠[]by decide) (λc o=>?_) rfl ?_⟩
  ·replace o:c∈([116,112]:Bs):=o;simp only[Qq,Qp,or_false]at o;rcases o with rfl|rfl
   ·exact i
   ·exact e
  ·show(A2 17++((32::(t))++((32::(p))++[]))).length<=400;rw[b];simp only[CV,Ql,Qt,Qm,Qw]at r;simp only[Qd,Qb,Qf];omega
 ·replace h:AG {akZ with op:=18} [116,112,113] wr=(a,0):=h;replace g:(w0::wr).length=1+3:=g;obtain⟨t,p,k,rfl⟩:∃t p k,wr=[t,p,k]:=by
   match wr,g with
   |[t,p,k],_=>exact⟨_,_,_,rfl⟩
  obtain⟨j,h⟩:=Ao h;obtain⟨v,i⟩:=IY j;replace h:=(congrArg (λz=>AG z [112,113] [p,k]) v).symm.trans h;dsimp only at h;clear j v;obtain⟨m,h⟩:=Ao h;obtain⟨x,e⟩:=N4 m;replace h:=(congrArg (λz=>AG z [113] [k]) x).symm.trans h;dsimp only at h;clear m x;obtain⟨f,h⟩:=Ao h;obtain⟨s,f3⟩:=aUS f;replace h:=(congrArg (λz=>AG z [] []) s).symm.trans h;dsimp only at h;clear f s;obtain rfl:=Bd h;clear h;refine⟨rfl,By (show A2 18≠[]by decide) (λc o=>?_) rfl ?_⟩
  ·replace o:c∈([116,112,113]:Bs):=o;simp only[Qq,Qp,or_false]at o;rcases o with rfl|rfl|rfl
   ·exact i
   ·exact e
   ·exact f3
  ·show(A2 18++((32::(t))++((32::(p))++((32::(k))++[])))).length<=400;rw[b];simp only[CV,Ql,Qt,Qm,Qw]at r;simp only[Qd,Qb,Qf];omega
def kF:∀s:Bs,Cz (BQ s)=some s
 |[]=>rfl
 |c::r=>by
  have ih:=kF r;have e:BQ (c::r)=[Fv (c.toNat / 16),Fv (c.toNat % 16)]++BQ r:=rfl;rw[e];show Cz (Fv (c.toNat / 16)::Fv (c.toNat % 16)::BQ r)=_;have o:=c.toNat_lt;have q:∀n:Fin 16,Cr (Fv n.val)=(n.val:Int):=Xj
  have u:=q ⟨c.toNat / 16,O⟩;have y:=q ⟨c.toNat % 16,O⟩;simp only at u y;rw[LK,u,y,if_neg O,ih];simp only[QS,QM,Q1,and_true];have:(16*((c.toNat / 16:Nat):Int)+((c.toNat % 16:Nat):Int)).toNat=c.toNat:=O
  rw[this];exact UInt8.ofNat_toNat
def aTh{v:Vw}{a:Ak}(q:jT [Hj v,GW a]=some (.int .i64 0))(h:a.op=1):G9 v a (λ_=>{GI v with rep:=Hg (.state v.se)}):=
 Ba _ (λk _=>Bp .o1 a k h q _ _ (Gq ⟨v,a,k⟩ (GI v) (.state v.se) (λ_=>rfl) trivial trivial)) rfl (DA (.state v.se) rfl trivial rfl Xm (I4 O) rfl v.se (λ_ _=>rfl) rfl)
def aTg{v:Vw}{a:Ak}(q:jT [Hj v,GW a]=some (.int .i64 0))(h:a.op=2):G9 v a (λ_=>{GI v with rep:=Hg .done,vw:={v with se:=false}}):=
 Ba _ (λk _=>Bp .o2 a k h q _ _ (Fz ⟨v,a,k⟩ _ (λ_=>rfl))) rfl (DA .done rfl trivial rfl Xm (I4 O) rfl _ (λe _=>absurd h e) rfl)
def aTf{v:Vw}{a:Ak}(q:jT [Hj v,GW a]=some (.int .i64 0))(h:a.op=3):G9 v a (λ_=>{GI v with rep:=Hg .done,vw:={v with se:=true}}):=
 Ba _ (λk _=>Bp .o3 a k h q _ _ (Fz ⟨v,a,k⟩ _ (λ_=>rfl))) rfl (DA .done rfl trivial rfl Xm (I4 O) rfl _ (λ_ e=>absurd h e) rfl)
def IS{s:Bs}{a:Ak}(h:Cd s=(a,0)):BO a=0∧1<=a.op∧a.op<=18:=by
 unfold Cd at h;by_cases n:400<s.length
 ·rw[if_pos n]at h;cases h
 rw[if_neg n]at h;by_cases f:fC ((splitC 32 s).getD 0 [])=0
 ·rw[if_pos f]at h;cases h
 rw[if_neg f]at h;by_cases g:(splitC 32 s).length≠1+(Bj (fC ((splitC 32 s).getD 0 []))).length
 ·rw[if_pos g]at h;cases h
 rw[if_neg g]at h;have g:=Decidable.not_not.1 g;have j:=IG (q:=32) s;have c:=Dd (q:=32) s;generalize splitC 32 s=p at *;obtain⟨w0,wr,rfl⟩:∃a b,p=a::b:=by cases p with|nil=>exact absurd rfl c|cons a b=>exact⟨a,b,rfl⟩
 have o:(w0::wr).getD 0 []=w0:=rfl;rw[o]at h f g;have m:=yD w0;have k:=VX w0 18 1 f;obtain⟨u,y⟩:=qF (w0:=w0) (wr:=wr) (op:=fC w0) O m.2 k g O h;exact⟨y,O,O⟩
def Oo{m:Md}(u:N8 m)(n:m.room≠0){s:Bs}(hl:s.length<=1000000){a:Ak}(z:Cd s=(a,0)){e:Int}(v:EH m.vw a=e)(o:1<=e):B2 [.agg (GP m),.str s]=some (.tup [.agg (GP m),.str (Hg (.fail e))]):=by
 have x:=(NW s).1;rw[z]at x;have q:=IA u.vw.ok x.ok;have f:=lA m.vw a;rw[v]at q f;have X:=W3 q ⟨o,f.2⟩;have h:=IU n hl z u X;rw[show FP (λ_=>HE m.vw e) m=HE m.vw e from rfl,show Fg m (HE m.vw e)=(m,Hg (.fail e))from if_neg (λh=>h.1 rfl)]at h;exact h
def iH{m:Md}(u:N8 m)(n:m.room≠0){s:Bs}(hl:s.length<=1000000){a:Ak}(z:Cd s=(a,0)){o:Oc}(X:G9 m.vw a (λ_=>o))(g:o.need=[])(f:o.ops=[]):B2 [.agg (GP m),.str s]=some (.tup [.agg (GP ⟨o.vw,m.tr,m.room⟩),.str o.rep]):=by
 have h:=IU n hl z u X;have j:FP (λ_=>o) m=o:=by show(if o.need=[]then o else _)=o;rw[if_pos g]
 have b:Fg m o=(⟨o.vw,m.tr,m.room⟩,o.rep):=by
  unfold Fg;rw[if_neg (λh=>h.1 f),f];rfl
 rw[j,b]at h;exact h
def lnS:Bs:=[115,116,97,116,117,115]
def lnC:Bs:=[115,101,97,108,32,114,111,111,116]
def Tb:Bs:=[117,110,115,101,97,108,32]
def aS:Ak:={akZ with op:=1}
def aC:Ak:={akZ with op:=3,tk:=Hk}
def aU(k:Bs):Ak:={akZ with op:=2,key:=k}
def aOL:Cd lnS=(aS,0):=Xa
def tN:Cd lnC=(aC,0):=Xa
def aGg{s:Bs}:(32:UInt8)∉BQ s:=λh=>absurd (aGf s 32 h) V
def aGH{k:Bs}(s:k.length=16):Cd (Tb++BQ k)=(aU k,0):=by
 have y:=EA k;have r:splitC 32 (Tb++BQ k)=[[117,110,115,101,97,108],BQ k]:=by
  have:=O4 (q:=32) (l:=[[117,110,115,101,97,108],BQ k]) U (λw hw=>by
   rcases Qq.1 hw with rfl|hw
   ·decide
   ·rw[Qn.1 hw];exact aGg)
  have e:Lib.join [[117,110,115,101,97,108],BQ k] [32]=Tb++BQ k:=by simp[Lib.join,Tb]
  rw[e]at this;exact this
 unfold Cd;rw[r,if_neg Yh];have j:fC ([[117,110,115,101,97,108],BQ k].getD 0 [])=2:=by
  show fC [117,110,115,101,97,108]=2
  kernel_rfl
 rw[j,if_neg V,if_neg (show ¬([[117,110,115,101,97,108],BQ k].length≠1+(Bj 2).length)from λh=>h rfl)];show AG {akZ with op:=2} [107] [BQ k]=_;have c:A8 {akZ with op:=2} 107 (BQ k)=(aU k,0):=by
  show({({akZ with op:=2}:Ak)with key:=(Cz (BQ k)).getD []},BD ((Cz (BQ k)).isSome&&decide ((((Cz (BQ k)).getD []).length:Int)=16)))=_;rw[kF];simp only[QI,Qk,Zv];rw[decide_eq_true O];rfl
 unfold AG;rw[show A8 {akZ with op:=2} (((107:UInt8).toNat:Nat):Int) (BQ k)=(aU k,0)from c];rfl
def aQC{v:Vw}:EH v aS=0:=by
 unfold EH;rw[if_neg (by rw[(IS aOL).1];decide),if_pos (show aS.op=1 from rfl)]
def aII{v:Vw}{k:Bs}(s:k.length=16):EH v (aU k)=if v.se=false then 9 else if k≠v.key then 11 else 0:=by
 unfold EH;rw[if_neg (by rw[(IS (aGH s)).1];decide),if_neg (show ¬((aU k).op=1)from(by decide:¬((2:Int)=1))),if_pos (show(aU k).op=2 from rfl)];rfl
def xM{v:Vw}{s:Bs}{a:Ak}(h:Cd s=(a,0))(r:v.se=true)(u:a.op≠1)(y:a.op≠2):EH v a=12:=by
 unfold EH;rw[if_neg (by rw[(IS h).1];decide),if_neg u,if_neg y,if_pos r]
def aIJ{v:Vw}(r:v.se=false):EH v aC=if Hy v aC=false then 13 else 0:=by
 unfold EH;rw[if_neg (by rw[(IS tN).1];decide),if_neg (show ¬(aC.op=1)by decide),if_neg (show ¬(aC.op=2)by decide),r,if_neg V];have:Lj v aC=true:=rfl;rw[this];split
 ·rfl
 ·rfl
def kU(m:Md)(b:Bool):Md:=⟨{m.vw with se:=b},m.tr,m.room⟩
def aQw{m:Md}(h:N8 m)(b:Bool):N8 (kU m b):=⟨jY h.vw b,h.tr⟩
def aVB{m:Md}(u:N8 m)(n:m.room≠0):B2 [.agg (GP m),.str lnS]=some (.tup [.agg (GP m),.str (Hg (.state m.vw.se))]):=by
 have x:=(NW lnS).1;rw[aOL]at x;have q:=IA u.vw.ok x.ok;rw[aQC]at q;exact iH u n V aOL (aTh q rfl) rfl rfl
def aVC{m:Md}(u:N8 m)(n:m.room≠0)(r:m.vw.se=false)(g:Hy m.vw aC=true):B2 [.agg (GP m),.str lnC]=some (.tup [.agg (GP (kU m true)),.str [111,107]]):=by
 have x:=(NW lnC).1;rw[tN]at x;have q:=IA u.vw.ok x.ok;rw[aIJ r,g,if_neg V]at q;exact iH u n V tN (aTf q rfl) rfl rfl
def aVA{m:Md}(u:N8 m)(n:m.room≠0)(r:m.vw.se=true)(s:m.vw.key.length=16):B2 [.agg (GP m),.str (Tb++BQ m.vw.key)]=some (.tup [.agg (GP (kU m false)),.str [111,107]]):=by
 have y:=EA m.vw.key;have x:=(NW (Tb++BQ m.vw.key)).1;rw[aGH s]at x;have q:=IA u.vw.ok x.ok;rw[aII s,if_neg (by rw[r];decide),if_neg (λh=>h rfl)]at q;exact iH u n Yh (aGH s) (aTg q rfl) rfl rfl
def aTd{m:Md}(u:N8 m)(n:m.room≠0)(r:m.vw.se=true){k:Bs}(s:k.length=16)(c:k≠m.vw.key):B2 [.agg (GP m),.str (Tb++BQ k)]=some (.tup [.agg (GP m),.str [101,114,114,111,114,32,49,49]]):=by
 have y:=EA k;exact Oo u n Yh (aGH s) (e:=11) (by rw[aII s,if_neg (by rw[r];decide),if_pos c]) V
def aM4{v:Vw}(hi:RQ v.ks)(g:Hy v aC=false):(if AV v.ks Hk=true then CT (Bf v.ks (HG v.ks Hk)).2.2.2 Vt else 0)=0:=by
 by_cases s:AV v.ks Hk=true
 ·exfalso;have y:HG v.ks Hk<v.ks.length:=by
   unfold AV at s;simp only[QE,decide_eq_true_eq]at s;exact s.1
  have x:(Bf v.ks (HG v.ks Hk)).1=Hk:=by
   unfold AV at s;rw[QE,Nm]at s;exact of_decide_eq_true s.2
  have n:=hi.rt _ (O2 y) x;have:Hy v aC=true:=by
   unfold Hy EV;show(AV v.ks Hk&&Ui (CT (Bf v.ks (HG v.ks Hk)).2.2.2 Vt).toNat (HF 3).toNat&&_)=true;rw[s,n];rfl
  rw[this]at g;cases g
 ·rw[if_neg s]
def aB0:=y2 f12 [] []
def Mu:=y3 Tryz.f3 13 [(15,[(5,9),(9,0),(9,4),(9,5)])] []
def aB4:=y2 Tryz.f3 [(9,[(2,0),(2,8),(4,8),(8,0),(8,2),(8,4)]),(10,[(1,0),(1,7),(3,7),(7,0),(7,1),(7,3)])] [(13,Mu)]
def zA{m:GB}{i:Id}{a b c d e f g:D}:Ag (m.put i 0 [a,b,c,d,e,f,g]) i 0 7=some [a,b,c,d,e,f,g]:=Ax rfl
def vJ{m:GB}{i:Id}{a b c d e f g h j k l:D}:Ag (m.put i 0 [a,b,c,d,e,f,g,h,j,k,l]) i 0 11=some [a,b,c,d,e,f,g,h,j,k,l]:=Ax rfl
def aEu{m:GB}{i:Id}{a b c d e f g h j k l:D}:m.put i 0 [a,b,c,d,e,f,g,h,j,k,l] i 0=some a:=Bi (k:=0) vJ rfl
def pO{m:GB}{i j o:Nat}{x:List D}(h:j≠i):m.put [i] 0 x [j] o=m [j] o:=aA (by simp[h])
def lnM:Bs:=[109,111,117,110,116,32,114,111,111,116,32,97,32,50,32,48]
def lnW:Bs:=[119,114,105,116,101,32,114,111,111,116,32,97,47,120,32,45,32,54,49,54,50]
def lnR:Bs:=[114,101,97,100,32,114,111,111,116,32,97,47,120,32,48]
def lnN:Bs:=[110,111,110,115,101,110,115,101]
def aM:Ak:={akZ with op:=5,tk:=Hk,pa:=[97],n:=2}
def aW:Ak:={akZ with op:=10,tk:=Hk,pa:=[97,47,120],cas:=-1,da:=[97,98]}
def aR:Ak:={akZ with op:=9,tk:=Hk,pa:=[97,47,120]}
def aTS:Cd lnM=(aM,0):=Xa
def aTQ:Cd lnW=(aW,0):=Xa
def aTR:Cd lnR=(aR,0):=Xa
def aVI:(Cd lnN).2=22:=Xa
def m0A:Md:=Pn Ho 2000
def zD:N8 m0A:=aI1 (r:=1700) V V
def v1A:Vw:={m0A.vw with nlm:=false,ms:=[([97],2,false)]}
def aUQ:EH m0A.vw aM=0:=Xa
def nTA:List Mt:=[([97],2,false)]
def oM:Oc:=V7 (GI m0A.vw) false nTA
def XM:G9 m0A.vw aM (λ_=>oM):=by
 have x:=zD.vw;have q:=IA x.ok (by have:=(NW lnM).1.ok;rw[aTS]at this;exact this);rw[aUQ]at q;have w:=aD8 (nl:=true) (t:=[]) (l:=[]) (m:=([97],2,false)) V (λ_=>rfl) V;rw[show HO [] ([97],2,false)=(some nTA,0)by kernel_rfl]at w;have n:Rk nTA:=⟨V,λm a=>by rw[Qn.1 a];decide⟩;have b:∀m∈nTA,m.1.length<=64:=λm a=>by rw[Qn.1 a];decide
 exact Ba _ (λk _=>Bp (v:=m0A.vw) .o5 aM k rfl q _ _ (aCR ⟨m0A.vw,aM,k⟩ (GI m0A.vw) false nTA w (HM m0A.vw) n)) rfl (DB .done rfl trivial rfl Xm (Nz V) (by simp[oM,V7,Ru,Oc.op,GI]) ⟨by simp[oM,V7,Ru,Oc.op,GI],by
    simp only[oM,V7,Ru,Oc.op,GI,Qi,List.forall_mem_cons];have:=Od b;exact⟨Dw (.inl rfl) rfl (Qs _) (by have:nTA.length=1:=rfl;omega),λ_ h=>nomatch h⟩⟩ (Ta x n (λi j u y=>absurd y (by show ¬j<1;omega)) (λe=>Xv) V b))
def m1A:Md:=⟨v1A,FQ oM.ops firstE,2000⟩
def dnM:Fg m0A oM=(m1A,[111,107]):=Xa
def V9:N8 m1A:=by
 have h:=(On zD (XM.rep kn0 ⟨V,V,λx q=>XE,λx q=>XE⟩ rfl)).md;rw[dnM]at h;exact h
def aUO:EH m1A.vw aW=0:=Xa
def oW:Oc:=FP (DG m1A.vw aW) m1A
def aTV:I2 aW:=by have:=(NW lnW).1;rw[aTQ]at this;exact this
def aTW:I2 aR:=by have:=(NW lnR).1;rw[aTR]at this;exact this
def XW:G9 m1A.vw aW (DG m1A.vw aW):=by
 have q:=IA V9.vw.ok aTV.ok;rw[aUO]at q;exact PP V9.vw aTV q Xj V
def m2A:Md:=(Fg m1A oW).1
def dnW:(Fg m1A oW).2=[111,107,32,110,117,109,98,101,114,32,49]:=Xa
def m2v:m2A.vw=m1A.vw:=Xa
def m2r:m2A.room=m1A.room:=Xa
def m2c:m2A.tr.cnt=5:=Xa
def m1c:m1A.tr.cnt=3:=Xa
def aUP:EH m2A.vw aR=0:=Xa
def UN:N8 m2A:=by
 obtain⟨g,k,s,f⟩:=TK V9 XW;have o:Iy m1A.vw aW (FP (DG m1A.vw aW) m1A):=by rw[f];exact XW.rep k s (by rw[←f];exact g)
 exact(On V9 o).md
def XR:G9 m2A.vw aR (Dh m2A.vw aR):=by
 have q:=IA UN.vw.ok aTW.ok;rw[aUP]at q;exact W5 UN.vw aTW q Xj (λh=>Xd) (.inl rfl)
def oR:Oc:=FP (Dh m2A.vw aR) m2A
def dnR:Fg m2A oR=(m2A,[111,107,32,102,111,117,110,100,32,49,32,54,49,54,50]):=by
 obtain⟨g,k,s,f⟩:=TK UN XR;have o:Iy m2A.vw aR (FP (Dh m2A.vw aR) m2A):=by rw[f];exact XR.rep k s (by rw[←f];exact g)
 refine ZA ((On UN o).ro (.inr (.inl rfl))) ?_
 kernel_rfl
def aIH:m0A.room≠0:=V
def dM:B2 [.agg (GP m0A),.str lnM]=some (.tup [.agg (GP m1A),.str [111,107]]):=by
 have h:=IU aIH (s:=lnM) V aTS zD XM;rw[show FP (λ_=>oM) m0A=oM from rfl,dnM]at h;exact h
def dW:B2 [.agg (GP m1A),.str lnW]=some (.tup [.agg (GP m2A),.str [111,107,32,110,117,109,98,101,114,32,49]]):=by
 have h:=IU (m:=m1A) V (s:=lnW) V aTQ V9 XW;rw[show(Fg m1A (FP (DG m1A.vw aW) m1A)).2=_ from dnW]at h;exact h
def dR:B2 [.agg (GP m2A),.str lnR]=some (.tup [.agg (GP m2A),.str [111,107,32,102,111,117,110,100,32,49,32,54,49,54,50]]):=by
 have h:=IU (m:=m2A) (by rw[m2r];decide) (s:=lnR) V aTR UN XR;rw[show Fg m2A (FP (Dh m2A.vw aR) m2A)=_ from dnR]at h;exact h
def dN:B2 [.agg (GP m2A),.str lnN]=some (.tup [.agg (GP m2A),.str [101,114,114,111,114,32,50,50]]):=by
 have h:=oL (m:=m2A) (by rw[m2r];decide) (s:=lnN) V aVI V;rw[show Hg (.fail 22)=_ by kernel_rfl]at h;exact h
def sF:Ld [.agg (GP m2A),.agg (GP m1A)]=some (.bool false):=
 aHQ m2A m1A m2v m2r (Qe UN.vw.ml V) (Qe UN.vw.kl V) (λk s=>(UN.vw.ok.kp k s).1.1) (by rw[m2c,m1c];decide)
def sZ:Ld [.agg (GP vF),.agg (GP vF)]=some (.bool true):=
 oK vF V V (λk s=>by cases s) List.Pairwise.nil V
def NZ:=Aq [(34,Ac MH),(11,Ac B2),(16,Ac Ld),(17,Ac aDT),(36,Ac oI),(35,Ac S8),(18,Ac oJ)]
def aDY:=RF NZ aB2 [.t 0] 113
def aN7:Kq aDY 9:=An (Aj func9) (Aa aAl (Aa fZ (Aa aAn (Aa aN4 (Aa aAk (Aa TR (Aa aN3 Ad)))))))
def aDX:aDY []=some (.bool true):=by
 refine Al (Qa rfl) ?_;unfold aB2;have n1:MH [.str [48,49,50,51,52,53,54,55,56,57,97,98,99,100,101,102],.int .i64 2000]=some (.tup [.agg (GP m0A),.int .i64 0]):=dE Ho 2000 rfl V (by have:=Uj;omega);have n2:MH [.str [115,104,111,114,116],.int .i64 2000]=some (.tup [.agg (GP vF),.int .i64 2]):=uM [115,104,111,114,116] 2000 V;have i:MH [.str [48,49,50,51,52,53,54,55,56,57,97,98,99,100,101,102],.int .i64 20]=some (.tup [.agg (GP vF),.int .i64 7]):=jQ Ho 20 rfl V (by have:=aAV;omega);have q:B2 [.agg (GP m0A),.str [109,111,117,110,116,32,114,111,111,116,32,97,32,50,32,48]]=_:=dM;have c:B2 [.agg (GP m1A),.str [119,114,105,116,101,32,114,111,111,116,32,97,47,120,32,45,32,54,49,54,50]]=_:=dW;have r:B2 [.agg (GP m2A),.str [114,101,97,100,32,114,111,111,116,32,97,47,120,32,48]]=_:=dR;have j:B2 [.agg (GP m2A),.str [110,111,110,115,101,110,115,101]]=_:=dN;have e:B2 [.agg (GP vF),.str [115,116,97,116,117,115]]=some (.tup [.agg (GP vF),.str []]):=aHR rfl [115,116,97,116,117,115];have o:=UN.same;have n:=sF;have t:=sZ;have z:=aDS m0A aIH Om;have w:=Ri;have x:=Iz Om;have a:oJ [.agg (GP m0A)]=some (.int .i64 2000):=aDR m0A;have z5:m0A.tr=firstE:=rfl;rw[z5]at z;generalize k:((Tr.weighL firstE.lst:Nat):Int)=W at z x;generalize firstE=F at w x;generalize m0A=A at *;generalize m1A=B at *;generalize m2A=C at *;simp only[GP,vF,Hc,AA,AI,Qt,Qh,Qi,ID]at n1 n2 i q c r j e o n t z w x a;simp (config:={maxSteps:=20000000}) (disch:=first|assumption|omega)only[GC,↓C2,Gy,simprocAttr,GM,Ae NZ 34,n1,n2,i,Ae NZ 11,q,c,r,j,e,Ae NZ 16,o,n,t,Ae NZ 17,z,Ae NZ 36,w,Ae NZ 35,x,Ae NZ 18,a,beq_self_eq_true]
def aUq:=Aq []
def aDV:=RF aUq aB0 [.cell (some 5) 2] 5
def aN5:Kq aDV 12:=An (Aj func12) Ad
def aDU(m:Md):aDV [.agg (GP m)]=some (Hj m.vw):=by
 refine Al (Qa rfl) ?_;unfold aB0;simp only[GP,Hj,Hc,Qh,Qi];simp (disch:=first|assumption|omega)only[GC,↓C2,Gy,simprocAttr,GM]
 all_goals exact YR
def oV:Md->List Bs->Md->Prop
 |m,[],z=>z=m
 |m,s::l,z=>∃a y,aLR m s a y∧oV a l z
def SS:∀(l:List Bs){m:Md},N8 m->m.room≠0->(∀s∈l,s.length<=500)->∃z,oV m l z∧N8 z∧z.room=m.room∧z.vw.key=m.vw.key
 |[],m,hm,_,_=>⟨m,rfl,hm,rfl,rfl⟩
 |s::l,m,hm,hr,hl=>by
  obtain⟨a,y,T⟩:=Vy hm hr s (Qe (hl s Qy) V);obtain⟨z,u,f,p,n⟩:=SS l T.md (by rw[T.room];exact hr) λx q=>hl x (Qv _ q)
  exact⟨z,⟨a,y,T,u⟩,f,p.trans T.room,n.trans T.key⟩
def zP{S:Gz}(i:S 11=some (Ac B2)){l:List Bs}{nl:Bool}{z:Md}{Q:Ex->St->Prop}(hn:l.length<=40)(hQ:∀ga,ga.s 6= .ptr [9] 0->ga.s 4= .ptr [0] 0->ga.s 7= .int .i64 0->Ag ga.m [9] 0 7=some (GP z)->(∃q,Ag ga.m [0] 0 7=some q)->Q (.exit 0) ga):
  ∀(f j:Nat)(m:Md)(w:St) g,l.length=j+f->oV m (l.drop j) z->10<=w.c->w.s 1= .slice nl [] (strsD l)->w.s 6= .ptr [9] 0->w.s 4= .ptr [0] 0->w.s 7= .int .i64 0->w.s 8= .int .i64 (j:Int)->Ag w.m [9] 0 7=some (GP m)->(∃q,Ag w.m [0] 0 7=some q)->A9 S [] Mr Q w g:=by
 intro f;induction f with
 |zero=>
  intro j m w g e a hc u h6 n h7 h8 m0 mq;refine Af Mr.eq_1 ?_;have d1:((j:Int)<l.length)=False:=eq_false O;have r:=AM l;rw[QR O]at a;obtain rfl:z=m:=a;simp only[GC,↓C2,Gy,simprocAttr,u,h8,r,d1];exact hQ _ h6 n h7 m0 mq
 |succ f ih=>
  intro j m w g e a hc u h6 n h7 h8 m0 mq;refine Af Mr.eq_1 ?_;have d1:((j:Int)<l.length)=True:=eq_true O;have r:=AM l;have hj:j<l.length:=O
  have p:=C_ hj;rw[QB hj]at a;obtain⟨m1,y,T,a⟩:=a;generalize l[j]=x at p T;have ih:=ih (j+1) m1;have la:=T.run;obtain⟨ma,t,b⟩:=w;obtain⟨q,mq⟩:=mq;simp only at hc u h6 n h7 h8 m0 mq;have v:∀k,(9=b+k)=False:=λk=>eq_false O
  have o:∀k,(b+k=9)=False:=λk=>eq_false O
  have oa:=nJ (j:=j);have sa:IntKind.i64.wrap ((j:Int)+1)=((j+1:Nat):Int):=GZ O O;generalize Hg y=rt at la;simp only[GP,Hc,Qh,Qi]at la m0
  repeat' (first|(refine As.intro (Am (by simp[AR,AB,GS,Ai,Ac,GE.ev,Cp,h6,v,o,i])) ?_)|simp (disch:=first|assumption|omega)only[↓C2,GA,simprocAttr,GM,u,h6,n,h7,h8,r,d1,p,oa,Qj,sa,m0,Ab i,la,zA,LO,pO,Qk,and_self])
  refine ih _ _ O a Xb u h6 n h7 rfl (Ax rfl) ⟨q,?_⟩;simp (disch:=omega)only[LO];exact mq
def aHS(r:Int)(o:0<=r)(y:r<65536)(nl:Bool)(l:List Bs)(hn:l.length<=40){z:Md}(j:oV (Pn Ho (300+r)) l z):aDW [.int .u16 r,.slice nl [] (strsD l)]=some (.tup [.agg (GP z),.bool true]):=by
 refine Al (Qa rfl) ?_;have h:aC2 11=some (Ac B2):=rfl;unfold aB1;have u:=dE Ho (300+r) rfl O (by have:=Uj;omega);have t:IntKind.i64.wrap r=r:=GZ O O;have p:IntKind.i64.wrap (300+r)=300+r:=GZ O O;generalize Pn Ho (300+r)=m at *;unfold Ho at u;simp only[GP,Hc,Qh,Qi]at u ⊢;simp (disch:=first|assumption|omega)only[GC,↓C2,Gy,simprocAttr,GM,Ae aC2 34,u,t,p];refine zP h (z:=z) hn (λk h6 n x v s=>?_) l.length 0 m _ _ O j (Qa rfl) rfl rfl rfl rfl rfl (Ax rfl) ⟨[.bool false,.int .i64 0,.str [],.slice true [] [],.slice true [] [],.nilptr,.int .i64 0],?_⟩
 ·obtain⟨q,s⟩:=s;simp only[GP,Hc,Qh,Qi]at v;have w:∀{m:GB} {i:Id} {a b c d e f g:D},Ag (m.put i 0 [a,b,c,d,e,f,g]) i 0 7=some [a,b,c,d,e,f,g]:=Ax rfl
  repeat' (first|(refine As.intro (Am ?_) ?_;first|rfl|simp[AR,AB,GS,Ai,Ac])|simp (disch:=first|assumption|omega)only[↓C2,GA,simprocAttr,GM,h6,n,x,v,s,w,Hl,AU,QS,Qk,and_self])
  all_goals exact YR
 ·simp (disch:=decide)only[Ay];exact Ax rfl
def CH:Gz:=Aq [(8,Ac aD0),(9,Ac aDY),(10,Ac aDW),(11,Ac B2),(12,Ac aDV),(13,Ac F36),(14,Ac aH3),(16,Ac Ld),(15,Ac S4)]
def aMe:List D->Option D:=RF CH aB4 [.t 6] 167
def aN9:Kq aMe 3:=An (Aj func3) (Aa aN8 (Aa aN7 (Aa aN6 (Aa fZ (Aa aN5 (Aa aQR (Aa yH (Aa aAn (Aa aAo Ad)))))))))
def aE8{z:Md}(h:z.vw.se=false):kU (kU z true) false=z:=by
 obtain⟨⟨a,b,c,d,e,f,g⟩,t,r⟩:=z;simp only at h;subst h;rfl
def FD{m:GB}:GF.app m []=m:=rfl
def aFw(l:List Bs):VW l=1∨(VW l=0∧l.length<=40∧∀s∈l,s.length<=500):=by
 unfold VW;by_cases c1:40<l.length
 ·exact .inl (if_pos c1)
 rw[if_neg c1];by_cases p:l.all (λs=>decide (s.length<=500))=true
 ·exact .inr ⟨if_pos p,O,λs r=>of_decide_eq_true (Za.1 p s r)⟩
 ·exact .inl (if_neg p)
def zQ{S:Gz}(i:S 11=some (Ac B2))(ca:S 16=some (Ac Ld))(w:S 15=some (Ac S4)){l:List Bs}{nl:Bool}{Q:Ex->St->Prop}(hl:∀s∈l,s.length<=500)(hn:l.length<=40){a z mb:Md}{ot tb:Bs}(ha:N8 a)(u:a.room≠0)(q:a.vw.se=true)
  (hQ:∀ga:St,ga.s 2= .str ot->ga.s 7= .ptr [15] 0->ga.s 9= .ptr [25] 0->ga.s 11= .ptr [38] 0->ga.s 12= .str tb->ga.s 13= .ptr [48] 0->ga.s 14= .str [111,107]->ga.s 16= .str [111,107,32,115,101,97,108,101,100]->Ag ga.m [15] 0 7=some (GP z)->Ag ga.m [25] 0 7=some (GP a)->Ag ga.m [38] 0 7=some (GP mb)->Ag ga.m [48] 0 7=some (GP z)->Q (.exit 0) ga):
  ∀(f j:Nat)(st:St) g,l.length=j+f->57<=st.c->st.s 1= .slice nl [] (strsD l)->st.s 2= .str ot->st.s 7= .ptr [15] 0->st.s 9= .ptr [25] 0->st.s 11= .ptr [38] 0->st.s 12= .str tb->st.s 13= .ptr [48] 0->st.s 14= .str [111,107]->st.s 16= .str [111,107,32,115,101,97,108,101,100]->st.s 17= .int .i64 (j:Int)->Ag st.m [15] 0 7=some (GP z)->Ag st.m [25] 0 7=some (GP a)->Ag st.m [38] 0 7=some (GP mb)->Ag st.m [48] 0 7=some (GP z)->A9 S [] Mu Q st g:=by
 intro f;induction f with
 |zero=>
  intro j st g hf hc h1 h2 h7 h9 qa ja ra wa ua ta m7 m9 p r;refine Af Mu.eq_1 ?_;have d1:((j:Int)<l.length)=False:=eq_false O;have ba:=AM l;simp only[GC,↓C2,Gy,simprocAttr,h1,ta,ba,d1];exact hQ _ h2 h7 h9 qa ja ra wa ua m7 m9 p r
 |succ f ih=>
  intro j st g hf hc h1 h2 h7 h9 qa ja ra wa ua ta m7 m9 p r;refine Af Mu.eq_1 ?_;have d1:((j:Int)<l.length)=True:=eq_true O;have ba:=AM l;have hj:j<l.length:=O
  have hx:=C_ hj;have ya:=hl _ (QD hj);generalize l[j]=x at hx ya;have ih:=ih (j+1);have fa:=Rj x O;have va:=ha.same;obtain⟨ma,ia,ea⟩:=st;simp only at hc h1 h2 h7 h9 qa ja ra wa ua ta m7 m9 p r;have v:∀k,(25=ea+k)=False:=λk=>eq_false O
  have o:(ea=12)=False:=eq_false O;have oa:=nJ (j:=j);have sa:IntKind.i64.wrap ((j:Int)+1)=((j+1:Nat):Int):=GZ O O;have da:=m9;by_cases b:(Cd x).2=0∧(Cd x).1.op≠1∧(Cd x).1.op≠2
  ·obtain⟨he,t,n⟩:=b;have hp:Cd x=((Cd x).1,0):=ZA rfl he;have la:=Oo ha u (s:=x) O hp (e:=12) (xM hp q t n) V;rw[show Hg (.fail 12)=[101,114,114,111,114,32,49,50]by kernel_rfl]at la;rw[he]at fa;generalize (Cd x).1=xa at fa t n;have o1:(xa.op=1)=False:=eq_false t;have o2:(xa.op=2)=False:=eq_false n;simp only[GP,Hc,GW,GV,Qh,Qi]at la fa va m9
   repeat' (first|(refine As.intro (Am XV) ?_)|simp (disch:=first|assumption|omega)only[↓C2,GA,simprocAttr,GM,h1,h2,h7,h9,qa,ja,ra,wa,ua,ta,ba,d1,hx,oa,Qj,sa,m9,Ab i,la,Ab ca,va,Ab w,fa,zA,vJ,aEu,LO,pO,o1,o2,Qk,and_self])
   replace m9:=da;refine ih _ _ O Xb h1 h2 h7 h9 qa ja ra wa ua rfl ?_ ?_ ?_ ?_
   ·simp (disch:=omega)only[FD,LO];exact m7
   ·simp (disch:=omega)only[FD,LO];exact m9
   ·simp (disch:=omega)only[FD,LO];exact p
   ·simp (disch:=omega)only[FD,LO];exact r
  ·obtain⟨d,y,T⟩:=Vy ha u x O;have la:=T.run;generalize Cd x=xz at fa b;obtain⟨xa,e⟩:=xz;simp only at fa b;generalize Hg y=rt at la;simp only[GP,Hc,GW,GV,Qh,Qi]at la fa va m9;by_cases he:e=0
   ·have aa:(e=0)=True:=eq_true he;by_cases t:xa.op=1
    ·have o1:(xa.op=1)=True:=eq_true t
     repeat' (first|(refine As.intro (Am XV) ?_)|simp (disch:=first|assumption|omega)only[↓C2,GA,simprocAttr,GM,h1,h2,h7,h9,qa,ja,ra,wa,ua,ta,ba,d1,hx,oa,Qj,sa,m9,Ab i,la,Ab ca,va,Ab w,fa,zA,vJ,aEu,LO,pO,aa,o1,Qk,and_self])
     replace m9:=da;refine ih _ _ O Xb h1 h2 h7 h9 qa ja ra wa ua rfl ?_ ?_ ?_ ?_
     ·simp (disch:=omega)only[FD,LO];exact m7
     ·simp (disch:=omega)only[FD,LO];exact m9
     ·simp (disch:=omega)only[FD,LO];exact p
     ·simp (disch:=omega)only[FD,LO];exact r
    ·have o1:(xa.op=1)=False:=eq_false t;have o2:(xa.op=2)=True:=eq_true (Decidable.byContradiction λh=>b ⟨he,t,h⟩)
     repeat' (first|(refine As.intro (Am XV) ?_)|simp (disch:=first|assumption|omega)only[↓C2,GA,simprocAttr,GM,h1,h2,h7,h9,qa,ja,ra,wa,ua,ta,ba,d1,hx,oa,Qj,sa,m9,Ab i,la,Ab ca,va,Ab w,fa,zA,vJ,aEu,LO,pO,aa,o1,o2,Qk,and_self])
     replace m9:=da;refine ih _ _ O Xb h1 h2 h7 h9 qa ja ra wa ua rfl ?_ ?_ ?_ ?_
     ·simp (disch:=omega)only[FD,LO];exact m7
     ·simp (disch:=omega)only[FD,LO];exact m9
     ·simp (disch:=omega)only[FD,LO];exact p
     ·simp (disch:=omega)only[FD,LO];exact r
   ·have aa:(e=0)=False:=eq_false he
    repeat' (first|(refine As.intro (Am XV) ?_)|simp (disch:=first|assumption|omega)only[↓C2,GA,simprocAttr,GM,h1,h2,h7,h9,qa,ja,ra,wa,ua,ta,ba,d1,hx,oa,Qj,sa,m9,Ab i,la,Ab ca,va,Ab w,fa,zA,vJ,aEu,LO,pO,aa,Qk,and_self])
    replace m9:=da;refine ih _ _ O Xb h1 h2 h7 h9 qa ja ra wa ua rfl ?_ ?_ ?_ ?_
    ·simp (disch:=omega)only[FD,LO];exact m7
    ·simp (disch:=omega)only[FD,LO];exact m9
    ·simp (disch:=omega)only[FD,LO];exact p
    ·simp (disch:=omega)only[FD,LO];exact r
def aD1(r:Int)(h0:0<=r)(h1:r<65536)(nl:Bool)(l:List Bs)(ot:Bs):aMe [.int .u16 r,.slice nl [] (strsD l),.str ot]=some (.bool true):=by
 refine Al (Qa rfl) ?_;have h:CH 11=some (Ac B2):=rfl;have c:CH 16=some (Ac Ld):=rfl;have m:CH 15=some (Ac S4):=rfl;unfold aB4;have h8:=aDZ nl l;have h9:=aDX;rcases aFw l with ho|⟨ho,hn,hl⟩
 ·rw[ho]at h8;simp (disch:=first|assumption|omega)only[GC,↓C2,Gy,simprocAttr,GM,Ae CH 8,h8,Ae CH 9,h9]
  all_goals exact YR
 rw[ho]at h8;by_cases hk:ot.length≠16
 ·have c1:((ot.length:Int)=16)=False:=eq_false O;simp (disch:=first|assumption|omega)only[GC,↓C2,Gy,simprocAttr,GM,Ae CH 8,h8,Ae CH 9,h9,c1]
  all_goals exact YR
 have hk:=Decidable.not_not.1 hk;have c1:((ot.length:Int)=16)=True:=eq_true O;have qa:=aI1 h0 h1;have ma:(Pn Ho (300+r)).room≠0:=by show(300:Int)+r≠0;omega
 obtain⟨z,hz,f,j,g⟩:=SS l qa ma hl;have la:=aHS r h0 h1 nl l hn hz;have d:z.room≠0:=by rw[j];exact ma
 replace g:z.vw.key=Ho:=g;have ja:=aDU z;have ea:(([101,114,114,111,114,32,49,50]:Bs)=[111,107])=False:=eq_false V;have ca:(([101,114,114,111,114,32,49,51]:Bs)=[111,107])=False:=eq_false V;have y:(([101,114,114,111,114,32,49,49]:Bs)=[111,107])=False:=eq_false V;by_cases q:z.vw.se=true
 ·have hC:=Oo f d (s:=lnC) V tN (e:=12) (xM tN q V V) V;rw[show Hg (.fail 12)=[101,114,114,111,114,32,49,50]by kernel_rfl]at hC;unfold lnC at hC;simp only[GP,Hc,Hj,q,Qh,Qi]at la ja hC
  repeat' (first|(refine As.intro (Am ?_) ?_;first|rfl|simp[AR,AB,GS,Ai,Ac])|simp (disch:=first|assumption|omega)only[GC,↓C2,Gy,simprocAttr,GM,Ae CH 8,h8,Ae CH 9,h9,Ae CH 10,la,Ab h,hC,Ae CH 12,ja,c1,ea,ca])
 have q:z.vw.se=false:=Xw
 cases hp:Hy z.vw aC with
 |false=>
  have hC:=Oo f d (s:=lnC) V tN (e:=13) (by rw[aIJ q,hp];rfl) V;rw[show Hg (.fail 13)=[101,114,114,111,114,32,49,51]by kernel_rfl]at hC;have ba:=aEb (nl:=z.vw.nlt) (l:=z.vw.ks) (s:=Hk) (p:=Vt) (Qe f.vw.kl V) (λk hk=>(f.vw.ok.kp k hk).1.1);rw[aM4 f.vw.inv hp]at ba;unfold Hk Vt at ba;unfold lnC at hC;simp only[GP,Hc,Hj,q,Qh,Qi]at la ja hC
  repeat' (first|(refine As.intro (Am ?_) ?_;first|rfl|simp[AR,AB,GS,Ai,Ac])|simp (disch:=first|assumption|omega)only[GC,↓C2,Gy,simprocAttr,GM,Ae CH 8,h8,Ae CH 9,h9,Ae CH 10,la,Ab h,hC,Ae CH 12,ja,Ae CH 13,ba,c1,ea,ca])
 |true=>
  have hC:=aVC f d q hp;have o:=aQw f true;have u:(kU z true).room≠0:=d;have hS:=aVB o u;have hU:=aVA o u rfl (by rw[show(kU z true).vw.key=Ho from g];rfl);rw[show(kU z true).vw.key=Ho from g,aE8 q]at hU;have i:=MI (s:=Ho) V;have n:=MI (s:=ot) O;rw[show Hg (.state (kU z true).vw.se)=[111,107,32,115,101,97,108,101,100]by kernel_rfl]at hS;unfold lnC at hC;unfold lnS at hS;have ec:(BQ Ho).length<=100:=V
  have ta:(BQ ot).length<=100:=by rw[EA];omega
  have hB:∃mb tb,B2 [.agg (GP (kU z true)),.str (Tb++BQ ot)]=some (.tup [.agg (GP mb),.str tb])∧((ot=Ho∧mb=z∧tb=[111,107])∨(ot≠Ho∧mb=kU z true∧tb=[101,114,114,111,114,32,49,49])):=by
   by_cases da:ot=Ho
   ·exact⟨_,_,by rw[da];exact hU,.inl ⟨da,rfl,rfl⟩⟩
   ·exact⟨_,_,aTd o u rfl hk (by rw[show(kU z true).vw.key=Ho from g];exact da),.inr ⟨da,rfl,rfl⟩⟩
  obtain⟨mb,tb,hB,b⟩:=hB;generalize BQ Ho=X at *;generalize BQ ot=Y at *;have pa:([117,110,115,101,97,108,32]:Bs).length+X.length<=9223372036854775807:=by show 7+X.length<=_;omega
  have oa:([117,110,115,101,97,108,32]:Bs).length+Y.length<=9223372036854775807:=by show 7+Y.length<=_;omega
  have aa:∀Z:Bs,([117,110,115,101,97,108,32]:Bs)++Z=117::110::115::101::97::108::32::Z:=λZ=>rfl
  unfold Tb at hU hB;unfold Ho at i;simp only[GP,Hc,Qh,Qi]at la hC hS hU hB
  repeat' (first|(refine As.intro (Am ?_) ?_;first|rfl|simp[AR,AB,GS,Ai,Ac])|simp (disch:=first|assumption|omega)only[GC,↓C2,Gy,simprocAttr,GM,Ae CH 8,h8,Ae CH 9,h9,Ae CH 10,la,Ab h,hC,hS,hU,hB,Ae CH 14,i,n,pa,oa,aa,c1])
  refine zQ h c m hl hn (a:=kU z true) (z:=z) (mb:=mb) (ot:=ot) (tb:=tb) o u rfl (λga e2 e7 e9 na t fa ka ia q7 q9 v w=>?_) l.length 0 _ _ O (Qa rfl) rfl rfl rfl rfl rfl rfl rfl rfl rfl rfl ?_ ?_ ?_ ?_
  ·have ha:=f.same;have sa:=o.same;rcases b with ⟨x,rfl,rfl⟩|⟨x,rfl,rfl⟩
   ·have e:(ot=[48,49,50,51,52,53,54,55,56,57,97,98,99,100,101,102])=True:=eq_true x;simp only[GP,Hc,Qh,Qi]at q7 q9 v w ha sa;simp (disch:=first|assumption|omega)only[↓C2,GA,simprocAttr,GM,e2,e7,e9,na,t,fa,ka,ia,q7,q9,v,w,Ab c,ha,sa,Ae CH 9,h9,e,Qk,and_self]
    all_goals exact YR
   ·have e:(ot=[48,49,50,51,52,53,54,55,56,57,97,98,99,100,101,102])=False:=eq_false x;simp only[GP,Hc,Qh,Qi]at q7 q9 v w ha sa;simp (disch:=first|assumption|omega)only[↓C2,GA,simprocAttr,GM,e2,e7,e9,na,t,fa,ka,ia,q7,q9,v,w,Ab c,ha,sa,Ae CH 9,h9,e,Qk,and_self]
    all_goals exact YR
  ·simp (disch:=decide)only[FD,Ay];exact Ax (ds:=GP z) rfl
  ·simp (disch:=decide)only[FD,Ay];exact Ax (ds:=GP (kU z true)) rfl
  ·simp (disch:=decide)only[FD,Ay];exact Ax (ds:=GP mb) rfl
  ·simp (disch:=decide)only[FD,Ay];exact Ax (ds:=GP z) rfl
end Go.Vd
namespace Go.Vd
open Go.RowKit Go.ChangeShapes Go.WideShapes Go.Deep
def allG(w:World)(b:Nat):Nat:=match w.heap[b]? with
 |some (.cells c _ _)=>c.size
 |_=>0
def aCz(w:World)(b:Nat)(h:w.heap.size<=b):allG w b=0:=by
 grind [allG]
def aGz{w:World}{p:Addr}{v:Value}(h:w.cell? p=some v):p.off<allG w p.block:=by
 unfold World.cell? at h;unfold allG;split at h
 ·grind
 ·cases h
def NP{α:Type}{p:Nat->α->Prop}:∀n,(∀i,i<n->∃x,p i x)->∃l:List α,l.length=n∧∀i x,l[i]?=some x->p i x
 |0,_=>⟨[],rfl,U⟩
 |n+1,h=>by
  obtain⟨l,u,f⟩:=NP n (λi hi=>h i O);obtain⟨x,q⟩:=h n O;refine⟨l++[x],by simp[u],λi y o=>?_⟩;by_cases hi:i<l.length
  ·grind
  ·grind
def Uf(P:Program)(t:TypeId):Bool:=match P.underlying t with
 |some (.struct _)=>true
 |_=>false
def I3:Bool->List D->D
 |true,cs=> .agg cs
 |false,[d]=>d
 |false,_=> .junk
def aPG(F:TypeId->List D->Prop):List TypeId->List D->Prop
 |[],ds=>ds=[]
 |t::r,ds=>∃a b,ds=a++b∧F t a∧aPG F r b
def Fit(P:Program):Nat->TypeId->List D->Prop
 |0,_,_=>False
 |n+1,t,ds=>match P.underlying t with
  |some .string=>∃s,ds=[.str s]
  |some .bool=>∃b,ds=[.bool b]
  |some (.int k)=>∃x,ds=[.int k x]∧(Lit.int k x).wf=true
  |some (.struct fs)=>aPG (Fit P n) (fs.toList.map (·.type)) ds
  |some (.slice e)=>∃nl xs,ds=[.slice nl [] xs]∧(nl=true->xs=[])∧∀x∈xs,∃cs,x=I3 (Uf P e) cs∧Fit P n e cs
  |_=>False
def wG(P:Program)(c:Nat):List Field->Nat->Bool
 |[],o=>o==c
 |f::r,o=>f.offset==o&&wG P c r (o+P.cellsOf f.type)
def H6(P:Program):Nat->TypeId->Bool
 |0,_=>false
 |n+1,t=>match P.underlying t with
  |some .string=>P.cellsOf t==1
  |some .bool=>P.cellsOf t==1
  |some (.int _)=>P.cellsOf t==1
  |some (.struct fs)=>wG P (P.cellsOf t) fs.toList 0&&fs.toList.all λf=>H6 P n f.type
  |some (.slice e)=>P.cellsOf t==1&&H6 P n e
  |_=>false
structure RJ (w:World) (ds:List D) (cs:List Value):Prop where
 len:ds.length=cs.length
 calm:∀d∈ds,d.calm1=true
 un:ds.map D.un1=ds
 rep:∀(j:Nat) d v,ds[j]?=some d->cs[j]?=some v->Rep w (startG (allG w)) d v∧v.oneCell'=true
theorem RJ.one {w : World} {d : D} {v : Value} (u : d.calm1 = true) (f : d.un1 = d) (p : Rep w (startG (allG w)) d v) (n : v.oneCell' = true) : RJ w [d] [v] :=
 ⟨rfl, fun x q => by simp only [Qq, Qp, or_false] at q; subst q; exact u, by simp [f], fun j x y q o => by
  match j with
  | 0 => simp only [Qo, QM] at q o; subst q o; exact ⟨p, n⟩
  | j + 1 => simp at q⟩
def SI{c:Nat}{b:Bool}:∀(l:List (List D))(j:Nat)(d:D),(∀ds∈l,ds.length=c∧(I3 b ds).cells=ds)->(flat (l.map (I3 b)))[j]?=some d->∃i k ds,l[i]?=some ds∧ds[k]?=some d∧j=i*c+k
 |[],j,d,_,h=>by simp[flat]at h
 |x::r,j,d,hl,h=>by
  obtain⟨u,y⟩:=hl x (Qy ..);simp only[Ql,flat,y]at h;by_cases z:j<x.length
  ·rw[QW z]at h;exact⟨0,j,x,rfl,h,O⟩
  ·rw[QV O]at h;obtain⟨i,k,ds,v,m,f⟩:=SI r _ d (λds p=>hl ds (Qv _ p)) h;refine⟨i+1,k,ds,by simpa using v,m,?_⟩;rw[Nat.succ_mul];omega
section
variable{H:Type}{enc:TypeId×Value->H}{P:Program}{w:World}{base:Nat}{spare:Nat->Bool}{held:Bool}
def NH{n:Nat}{cs:List Value}{fuel:Nat}(ih:∀t,H6 P n t=true->∀(fuel:Nat)(cs:List Value) x,DataW.trod enc P w base spare held fuel t cs=some x->cs.length=P.cellsOf t∧∃ds,Fit P n t ds∧RJ w ds cs):
  ∀(e:List Field)(o:Nat),wG P cs.length e o=true->(e.all λf=>H6 P n f.type)=true->(∀(j:Nat) f,e[j]?=some f->∃y,DataW.trod enc P w base spare held fuel f.type ((cs.drop f.offset).take (P.cellsOf f.type))=some y)->
   o<=cs.length∧∃ds,aPG (Fit P n) (e.map (·.type)) ds∧RJ w ds (cs.drop o)
 |[],o,k,_,_=>by
  simp only[wG,beq_iff_eq]at k;subst k;refine⟨Qg _,[],rfl,U,U,rfl,U⟩
 |f::r,o,k,hp,hf=>by
  simp only[wG,QE,beq_iff_eq]at k;obtain⟨rfl,k⟩:=k;simp only[Zu,QE]at hp;obtain⟨y,hy⟩:=hf 0 f rfl;obtain⟨u,a,i,s⟩:=ih _ hp.1 _ _ _ hy;obtain⟨h2,b,fb,sb⟩:=NH ih r _ k hp.2 (λj g q=>hf (j+1) g Xw);have c:cs.drop f.offset=(cs.drop f.offset).take (P.cellsOf f.type)++cs.drop (f.offset+P.cellsOf f.type):=by
   rw[←List.drop_drop,List.take_append_drop]
  refine⟨O,a++b,⟨a,b,rfl,i,fb⟩,?_⟩;rw[c];refine⟨by rw[Qd,Qd,s.len,sb.len],λd p=>?_,by rw[QX,s.un,sb.un],λj d v p m=>?_⟩
  ·rcases Zg.1 p with h|h
   ·exact s.calm d h
   ·exact sb.calm d h
  ·have hl:=s.len;by_cases z:j<a.length
   ·rw[QW z]at p;rw[QW O]at m;exact s.rep j d v p m
   ·rw[QV O]at p;rw[QV O,←hl]at m;exact sb.rep _ d v p m
def OV{n:Nat}{e:TypeId}{ds:List D}(h:Fit P n e ds):(I3 (Uf P e) ds).cells=ds∧(ds.all D.calm1=true->(I3 (Uf P e) ds).calm=true):=by
 cases n with
 |zero=>exact h.elim
 |succ n=>
  unfold Fit at h;unfold Uf;split at h
  ·rename_i z;rw[z];obtain⟨s,rfl⟩:=h;exact⟨rfl,λ_=>rfl⟩
  ·rename_i z;rw[z];obtain⟨s,rfl⟩:=h;exact⟨rfl,λ_=>rfl⟩
  ·rename_i z;rw[z];obtain⟨s,rfl,_⟩:=h;exact⟨rfl,λ_=>rfl⟩
  ·rename_i i z;rw[z];exact⟨rfl,λo=>by simpa[I3,D.calm]using o⟩
  ·rename_i z;rw[z];obtain⟨nl,xs,rfl,_⟩:=h;exact⟨rfl,λ_=>rfl⟩
  ·exact h.elim
def O9:∀(n:Nat)(t:TypeId),H6 P n t=true->∀(fuel:Nat)(cs:List Value) x,DataW.trod enc P w base spare held fuel t cs=some x->cs.length=P.cellsOf t∧∃ds,Fit P n t ds∧RJ w ds cs
 |0,t,hp=>by simp[H6]at hp
 |n+1,t,hp=>by
  intro fuel cs x h;unfold H6 at hp;unfold Fit;split at hp
  ·rename_i ht;simp only[beq_iff_eq]at hp;obtain⟨s,rfl,_⟩:=DataW.trod_string ht h;exact⟨hp.symm,_,⟨s.data.toList,rfl⟩,RJ.one rfl rfl (.str _) rfl⟩
  ·rename_i ht;simp only[beq_iff_eq]at hp;obtain⟨b,rfl,_⟩:=DataW.trod_bool ht h;exact⟨hp.symm,_,⟨b,rfl⟩,RJ.one rfl rfl (.bool _) rfl⟩
  ·rename_i k ht;simp only[beq_iff_eq]at hp;obtain⟨b,rfl,_,hw⟩:=DataW.trod_int ht h;exact⟨hp.symm,_,⟨b,rfl,hw⟩,RJ.one rfl rfl (.int _ _) rfl⟩
  ·rename_i fs ht;simp only[QE]at hp;obtain⟨ys,n',_,_,hl,r,hf⟩:=DataW.trod_struct ht h;rw[←hl]at hp;have:=NH (fuel:=n') (O9 n) fs.toList 0 hp.1 hp.2 (λj f hj=>by
    have sa:fs[j]?=some f:=by simpa using hj
    have ra:j<fs.size:=(Qr.1 sa).1;have db:ys[j]?=some (ys[j]' O):=Qc O;exact⟨_,(hf j f sa).trans db⟩)
   obtain⟨_,ds,h1,h2⟩:=this;exact⟨hl,ds,h1,by simpa using h2⟩
  ·rename_i e ht;simp only[QE,beq_iff_eq]at hp;rcases open_slice ht h with ⟨rfl,_⟩|⟨a,len,cap,m,n',D',Pl,rfl,_,hl,_,hm,_,hi⟩
   ·exact⟨hp.1.symm,_,⟨true,[],rfl,(λ_=>rfl),(λx hx=>by cases hx)⟩,RJ.one rfl rfl (.nils []) rfl⟩
   ·have u:len<=m:=by rw[hm];split<;>omega
    have hc:=NP (p:=λi (ds:List D)=>Fit P n e ds∧ds.length=P.cellsOf e∧ds.all D.calm1=true∧∀(j:Nat) d,ds[j]?=some d->∃v,w.cell? (a.add (i*P.cellsOf e+j))=some v∧Rep w (startG (allG w)) d v∧v.oneCell'=true) len (λi g=>by
     obtain⟨da,h1,h2⟩:=hi i O;obtain⟨h3,ds,h4,h5⟩:=O9 n e hp.2 _ _ _ h2;refine⟨ds,h4,h5.len.trans h3,Za.2 h5.calm,λj d hd=>?_⟩;have hj:j<ds.length:=(Q7.1 hd).1;have z:j<da.length:=by rw[←h5.len];exact hj
     obtain⟨_,_,ka⟩:=World.cells?_some h1;obtain⟨r1,r2⟩:=h5.rep j d _ hd (Qc z);refine⟨_,?_,r1,r2⟩;rw[←Go.Deep.add_add,ka j O,Qc z])
    obtain⟨l,va,o⟩:=hc;have aa:∀j,j<len*P.cellsOf e->∃v,w.cell? (a.add j)=some v∧v.oneCell'=true:=by
     intro j hj;have y:0<P.cellsOf e:=by
      grind
     have hi:j / P.cellsOf e<l.length:=by rw[va];exact Nat.div_lt_of_lt_mul (by rw[Zy];exact hj)
     obtain⟨_,q2,_,q4⟩:=o _ _ (Qc hi);have hk:j % P.cellsOf e<(l[j / P.cellsOf e]).length:=by rw[q2];exact Nat.mod_lt _ y
     obtain⟨v,h1,_,h3⟩:=q4 _ _ (Qc hk);rw[Zy,Nat.div_add_mod]at h1;exact⟨v,h1,h3⟩
    have ja:∀ds∈l,ds.length=P.cellsOf e∧(I3 (Uf P e) ds).cells=ds∧(I3 (Uf P e) ds).calm=true:=λds hd=>by
     obtain⟨i,hi,rfl⟩:=Zj hd;obtain⟨q1,q2,q3,_⟩:=o i _ (Qc hi);exact⟨q2,(OV q1).1,(OV q1).2 q3⟩
    refine⟨hp.1.symm,[.slice false [] (l.map (I3 (Uf P e)))],⟨false,_,rfl,(λh0=>by cases h0),λx hx=>?_⟩,RJ.one rfl rfl ?_ rfl⟩
    ·obtain⟨ds,hd,rfl⟩:=QQ.1 hx;obtain⟨i,hi,rfl⟩:=Zj hd;exact⟨_,rfl,(o i _ (Qc hi)).1⟩
    ·refine .slice [] _ a len cap (P.cellsOf e) (λj=>(w.cell? (a.add j)).getD undef) (by simp[va]) hl (λd hd=>?_) (λj hj=>?_) (λj hj=>?_) (λj d hd=>?_) (λh0=>?_) (λh=>absurd rfl h) (λd hd=>?_)
     ·grind
     ·grind
     ·grind
     ·obtain⟨i,k,ds,e1,e2,rfl⟩:=SI (c:=P.cellsOf e) l j d (λds q=>⟨(ja ds q).1,(ja ds q).2.1⟩) hd;obtain⟨_,_,_,q4⟩:=o i ds e1;obtain⟨v,h1,h2,_⟩:=q4 k d e2;simp only[h1,QI];exact h2
     ·obtain⟨v,hv,_⟩:=aa (len*P.cellsOf e-1) O;have:=aGz hv;rw[Fo,Dj]at this;show a.off+len*P.cellsOf e<=allG w a.block;omega
     ·obtain⟨ds,q,rfl⟩:=QQ.1 hd;exact(ja ds q).2.2
  ·cases hp
end
end Go.Vd
namespace Go.Vd
open Go.Proofs Go.RowKit
section
variable{n:Nat}{ds:List D}
def Fit.slice{P:Program}{t e:TypeId}(j:P.underlying t=some (.slice e))(h:Fit P (n+1) t ds):∃nl xs,ds=[.slice nl [] xs]∧(nl=true->xs=[])∧∀x∈xs,∃cs,x=I3 (Uf P e) cs∧Fit P n e cs:=by
 unfold Fit at h;rw[j]at h;exact h
def Fit.str{P:Program}{t:TypeId}(j:P.underlying t=some .string)(h:Fit P (n+1) t ds):∃s,ds=[.str s]:=by
 unfold Fit at h;rw[j]at h;exact h
def Fit.int{P:Program}{t:TypeId}{k:IntKind}(j:P.underlying t=some (.int k))(h:Fit P (n+1) t ds):∃x,ds=[.int k x]∧(Lit.int k x).wf=true:=by
 unfold Fit at h;rw[j]at h;exact h
def all_map{α β:Type}{f:α->β}:∀{xs:List β},(∀x∈xs,∃a,x=f a)->∃l:List α,xs=l.map f
 |[],_=>⟨[],rfl⟩
 |x::r,h=>by
  obtain⟨a,rfl⟩:=h x Qy;obtain⟨l,rfl⟩:=all_map λy o=>h y (Qv _ o)
  exact⟨a::l,rfl⟩
def fit_strs{P:Program}{t e:TypeId}(j:P.underlying t=some (.slice e))(z:P.underlying e=some .string)(hi:Uf P e=false)(h:Fit P (n+2) t ds):∃nl l,ds=[.slice nl [] (strsD l)]:=by
 obtain⟨nl,xs,rfl,g,q⟩:=Fit.slice j h;obtain⟨l,rfl⟩:=all_map (f:=D.str) (xs:=xs) (λx a=>by
  obtain⟨cs,rfl,v⟩:=q x a;rw[hi];obtain⟨s,rfl⟩:=Fit.str z v;exact⟨s,rfl⟩)
 exact⟨nl,l,rfl⟩
end
def cell_fit{H:Type}{c:TypeId×Value->H}{P:Program}{w:World}{base:Nat}{a:Nat->Bool}{b:Bool}{n:Nat}{t:TypeId}{v:Value}{d:DataW H}{p:List MemPlace}(g:H6 P n t=true)(x:v.cells=#[v])(h:DataW.Trod c P w base a b t v d p):
  ∃ds,Fit P n t ds∧∀m,ds=[m]->Rep w (startG (allG w)) m v:=by
 obtain⟨fuel,s⟩:=h;rw[x]at s;obtain⟨_,ds,u,y⟩:=O9 n t g _ _ _ s;exact⟨ds,u,λm e=>by subst e;exact(y.rep 0 m v rfl rfl).1⟩
def u16_wf{x:Int}(h:(Lit.int .u16 x).wf=true):0<=x∧x<65536:=by
 simp[Lit.wf,IntKind.min,IntKind.max,IntKind.signed,IntKind.bits]at h;omega
def V6{F:List D->Option D}{f:FuncId}(k:(Ac F).ok QA f)(g:∀(r:Int)(nl:Bool)(l:List Bs)(s:Bs),0<=r->r<65536->F [.int .u16 r,.slice nl [] (strsD l),.str s]=some (.bool true)){w:World}{v a z:Value}(o:∃r:Int,v= .int .u16 r∧0<=r∧r<65536)(u:∃(nl:Bool)(l:List Bs),Rep w (startG (allG w)) (.slice nl [] (strsD l)) a)(y:∃s:Bs,Rep w (startG (allG w)) (.str s) z):
  Calls QA f #[v,a,z] w λe c=>e= .returned (.bool true)∧Below w.heap.size w c:=by
 obtain⟨r,rfl,r0,t⟩:=o;obtain⟨nl,l,n⟩:=u;obtain⟨s,i⟩:=y;refine wZ k (G:=allG w) (λb m=>aCz w b m) (ds:=[.int .u16 r,.slice nl [] (strsD l),.str s]) (vs:=[.int .u16 r,a,z]) rfl (λj d x p q=>?_) rfl rfl (g r nl l s r0 t)
 match j with
 |0=>simp only[Qo,QM]at p q;subst p q;exact .int _ _
 |1=>simp only[QG,Qo,QM]at p q;subst p q;exact n
 |2=>simp only[QG,Qo,QM]at p q;subst p q;exact i
 |j+3=>simp at p
def seals_law{w:World}{v a z:Value}(f:∃r:Int,v= .int .u16 r∧0<=r∧r<65536)(u:∃(nl:Bool)(l:List Bs),Rep w (startG (allG w)) (.slice nl [] (strsD l)) a)(y:∃s:Bs,Rep w (startG (allG w)) (.str s) z):
  Calls QA 3 #[v,a,z] w λe i=>e= .returned (.bool true)∧Below w.heap.size w i:=V6 aN9 (λr nl l s f u=>aD1 r f u nl l s) f u y
end Go.Vd
end
