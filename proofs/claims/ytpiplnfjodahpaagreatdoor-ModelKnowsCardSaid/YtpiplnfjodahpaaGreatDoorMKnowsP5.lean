/- A part of the proof; nothing in it is assumed. -/
import Derived.Test.YtpiplnfjodahpaaGreatDoorMKnowsP4
import Derived.WalkLawsBesides
import Derived.RangeFuncNested
import Derived.RangeFuncBound
import Derived.Deep.Fields

set_option linter.unusedSimpArgs false
set_option linter.unusedVariables false
set_option linter.defProp false
set_option maxHeartbeats 4000000
set_option maxRecDepth 100000
open Nat renaming le_of_ble_eq_true→Qa,le_trans→Qd,le_refl→Qh,zero_le→Ql,reduceAdd→Qr,reduceEqDiff→Qt,reduceSub→QQ,reduceLeDiff→Q8,le_of_eq→Zo,reduceLT→Zr,lt_irrefl→ZC,lt_of_lt_of_le→ZG,le_succ_of_le→ZJ,lt_trichotomy→ZL,reduceMul→Z3,lt_or_ge→Z4,add_zero→Z5,mul_comm→Z7
open List renaming getElem?_eq_getElem→Qb,mem_singleton→Qc,cons_append→Qe,nil_append→Qf,mem_cons_of_mem→Qg,mem_cons_self→Qj,length_cons→Qk,mem_map→Qn,drop_eq_getElem_cons→Qo,length_map→Qs,mem_append→Qu,getElem?_cons_zero→Qv,mem_cons→Qw,take_append_drop→Qx,length_nil→Qz,length_append→QB,getElem?_map→QF,append_assoc→QG,map_cons→QH,mem_of_mem_take→QI,take_succ_eq_append_getElem→QJ,getElem?_append_right→QL,getElem_of_mem→QM,mem_filter→QN,drop_eq_nil_of_le→QP,getElem_mem→QR,pairwise_iff_getElem→QS,append_toArray→QW,getElem?_cons_succ→QX,pairwise_cons→QY,size_toArray→QZ,push_toArray→Q_,mem_of_mem_drop→Q1,pairwise_append→Q2,getElem?_eq_some_iff→Q3,getElem?_append_left→Q4,map_append→Q5,take_length→Q7,drop_append_of_le_length→Q9,range_eq_range'→Za,filter_sublist→Zb,map_nil→Zd,append_eq_append_iff→Zj,length_eq_zero_iff→Zm,length_drop→Zn,toArray→Zp,take_of_length_le→Zq,length_filter_le→Zt,mem_append_right→Zu,map_eq_nil_iff→Zv,take_succ_cons→Zw,getD_cons_zero→Zx,getD_cons_succ→Zy,sum_cons→Zz,getElem?_drop→ZF,drop_sublist→ZI,all_eq_false→ZK,getLast?_map→ZM,getD→ZN,take_prefix→ZO,not_mem_nil→ZP,mem_nil_iff→ZQ,all_eq_true→ZR,append_nil→ZS,find?_cons→ZT,headD_cons→ZV,drop_left→ZY,drop_drop→Z_,find?_nil→Z0,append_eq→Z1,all_cons→Z2,map→Z8,drop→Z9
open Int renaming toNat_natCast→Qi,reduceEq→QA,le_refl→Q6,toNat_of_nonneg→Zc,reduceNe→Ze,reduceLE→Zf,tmod_eq_emod_of_nonneg→Zh,reduceLT→Zs,lt_irrefl→ZB
open Array renaming getElem?_eq_some_iff→Qm,replicate_succ→QU,replicate_zero→QV,getD_eq_getD_getElem?→Q0
open Option renaming isSome_some→Qp,getD_some→QC,map_eq_some_iff→QE,map_some→QT,isSome_none→Zg,getD_none→Zl,map_none→ZW
open Bool renaming and_eq_true→Qq,false_eq_true→Zi,not_eq_true'→Zk,or_false→ZD,true_eq_false→ZE,false_ne_true→ZH,eq_iff_iff→ZU,false_and→ZX,or_true→Z6
open Option.some renaming injEq→Qy,inj→Y_
open Go.Proofs.Tryz renaming prog→QD
open List.cons renaming injEq→QO
open Prod.mk renaming injEq→ZA
open Prod renaming fst→Y7
open Go.Proofs.Tryz
noncomputable section
namespace Go.Vd
open Go.Proofs Go.RowKit
def rR(s:Sc)(n:Int):0<=(IK s n).2∧(IK s n).2<=99:=by
 grind [IK]
def dQ{s:Sc}(j:Tw s){n:Int}(h:(IK s n).2=0):1<=(IK s n).1.1∧(IK s n).1.1<=30:=by
 have f:=L4 j.bad;unfold IK at h ⊢;split at h
 ·cases h
 ·rename_i u;rw[if_neg u];split at h
  ·cases h
  ·rename_i y;rw[if_neg y];split at h
   ·cases h
   ·rename_i o;rw[if_neg o];have d:G6 s n<s.rs.length:=by
     unfold G6;split
     ·omega
     ·exact Ui _ _
    simp only[ZN];rw[Qb O];have hm:=Ot f.2.2.2.2.1 _ (QR (l:=s.rs) (n:=(G6 s n).toNat) O);have c:(s.rs.getLast?.map (·.1)).getD 0=GN s.rs:=by unfold GN;cases s.rs.getLast?<;>rfl
    rw[c,f.2.2.2.2.2]at hm;simp only[QC];omega
def Co(v:Vw)(a:Ak)(k:Kn):Oc:=
 if(AJ k a.pa).2.2=false then Dy v (Ao 1 a.pa 0) false
 else if a.op=10 then Dt v a.pa (EB (Cc (AJ k a.pa))) a.cas a.da
 else if a.op=15 then Dg v a.pa (Cy (EB (Cc (AJ k a.pa))) (AN v a.pa).1 a.n a.fl).1 (Cy (EB (Cc (AJ k a.pa))) (AN v a.pa).1 a.n a.fl).2.1 (Cy (EB (Cc (AJ k a.pa))) (AN v a.pa).1 a.n a.fl).2.2
 else match Cc (AJ k a.pa)with
  |none=>Fz v 6
  |some s=>if a.op=14 then {HM v with rep:=IY (.about s)}else if a.op=16 then {D6 (HM v) a.pa s.rs with rep:=IY .done}
   else if a.op=11 then Dg v a.pa (Bj s a.ns 280).1 [] (Bj s a.ns 280).2.2 else if a.op=12 then Dg v a.pa (Bj s a.ns 281).1 [] (Bj s a.ns 281).2.2
   else Dg v a.pa (Bj s a.ns 282).1 (Bj s a.ns 282).2.1 (Bj s a.ns 282).2.2
def aYl{v:Vw}{a:Ak}{k:Kn}(e:Ih v)(x:IV a)(g:IU k)(q:10<=a.op∧a.op<=16):∃ol,U_ ⟨v,a,k⟩ (HM v) []=some (.tup [],Co v a k,ol):=by
 have y:a.pa.length<=1000000:=Yt
 have o:a.da.length<=1000000:=by have:=x.ok.da;omega
 have w:=x.ok.ns;unfold Co;cases hm:(AJ k a.pa).2.2 with
 |false=>
  rw[if_pos rfl];exact⟨_,aFV ⟨v,a,k⟩ (HM v) _ _ _ (λ_=>rfl) (Oe g y hm)⟩
 |true=>
  rw[if_neg V];have z:=Ms (v:=v) (a:=a) g y hm;have t:=Er (AJ k a.pa);by_cases m:a.op=10
  ·rw[if_pos m];obtain⟨ol,i⟩:=aPZ (a:=a) (k:=k) e y t (cas:=a.cas) (data:=a.da) o;exact⟨_,aAI ⟨v,a,k⟩ (HM v) _ _ _ _ (λ_=>rfl) z m i⟩
  rw[if_neg m];by_cases p:a.op=15
  ·rw[if_pos p];have hl:=t.len;obtain⟨u,j,d⟩:=gX hl (AN v a.pa).1 a.n a.fl;obtain⟨ol,r⟩:=aHZ (v:=v) (a:=a) (k:=k) (s:=(Cy (EB (Cc (AJ k a.pa))) (AN v a.pa).1 a.n a.fl).1) O (gnl:=decide ((Cy (EB (Cc (AJ k a.pa))) (AN v a.pa).1 a.n a.fl).2.1=[])) (gone:=(Cy (EB (Cc (AJ k a.pa))) (AN v a.pa).1 a.n a.fl).2.1) O u y;exact⟨_,pT ⟨v,a,k⟩ (HM v) _ _ _ _ (λ_=>rfl) z p (AN v a.pa).1 (AN v a.pa).2 _ _ _ _ r (WS ⟨v,a,k⟩ (HM v) a.pa (λ_=>rfl) (by have:=e.ml;simp only;omega)) (aLj _ _ _ _ _ O t.nl)⟩
  rw[if_neg p];cases hs:Cc (AJ k a.pa)with
  |none=>
   rw[hs]at z;exact⟨_,aFU ⟨v,a,k⟩ (HM v) _ _ _ (λ_=>rfl) z m p (w54 v a k V)⟩
  |some s=>
   rw[hs]at z;have b:=LP hs;have hl:=b.len;simp only;by_cases c:a.op=14
   ·rw[if_pos c];exact⟨_,aAK ⟨v,a,k⟩ (HM v) s _ _ (λ_=>rfl) z c (LC ⟨v,a,k⟩ (HM v) (.about s) (λ_=>rfl) (show s.rs.length<=1000 by omega) trivial)⟩
   rw[if_neg c];by_cases ta:a.op=16
   ·rw[if_pos ta];exact⟨_,aAJ ⟨v,a,k⟩ (HM v) s _ _ (λ_=>rfl) z ta (aKl ⟨v,a,k⟩ (HM v) s (IT v) O y)⟩
   rw[if_neg ta];by_cases na:a.op=11
   ·rw[if_pos na];obtain⟨u,j,d⟩:=M6 hl a.ns 280;obtain⟨ol,r⟩:=aHZ (v:=v) (a:=a) (k:=k) (s:=(Bj s a.ns 280).1) O (gnl:=true) (gone:=[]) (Ql _) u y;exact⟨_,pS ⟨v,a,k⟩ (HM v) s _ _ (λ_=>rfl) z na _ _ r (aLh s _ _ O b.nl w)⟩
   rw[if_neg na];by_cases f:a.op=12
   ·rw[if_pos f];obtain⟨u,j,d⟩:=M6 hl a.ns 281;obtain⟨ol,r⟩:=aHZ (v:=v) (a:=a) (k:=k) (s:=(Bj s a.ns 281).1) O (gnl:=true) (gone:=[]) (Ql _) u y;exact⟨_,WN ⟨v,a,k⟩ (HM v) s _ _ (λ_=>rfl) z f _ _ r (aLf s _ _ O b.nl w)⟩
   rw[if_neg f];have ua:a.op=13:=O
   obtain⟨u,j,d⟩:=M6 hl a.ns 282;obtain⟨ol,r⟩:=aHZ (v:=v) (a:=a) (k:=k) (s:=(Bj s a.ns 282).1) O (gnl:=decide ((Bj s a.ns 282).2.1=[])) (gone:=(Bj s a.ns 282).2.1) O u y;exact⟨_,iV ⟨v,a,k⟩ (HM v) s _ _ (λ_=>rfl) z ua _ _ _ _ r (aLd s _ _ O b.nl w)⟩
def En{v:Vw}{a:Ak}{k:Kn}(r:Ih v)(i:Ay a.pa=0)(q:10<=a.op∧a.op<=16):((AJ k a.pa).2.2=true->(Co v a k).need=[]∧LH v a (Co v a k))∧((AJ k a.pa).2.2=false->Co v a k=Dy v (Ao 1 a.pa 0) false):=by
 have oa:=Er (AJ k a.pa);have hl:=oa.len;unfold Co;cases hm:(AJ k a.pa).2.2 with
 |false=>
  rw[if_pos rfl];exact⟨λe=>Xo,λ_=>rfl⟩
 |true=>
  rw[if_neg V];refine⟨λ_=>?_,λe=>Xo⟩;by_cases wa:a.op=14
  ·rw[if_neg O,if_neg O];cases hs:Cc (AJ k a.pa)with
   |none=>exact⟨rfl,B4 V⟩
   |some s=>
    simp only;rw[if_pos wa];exact⟨rfl,GX (.about s) (if_neg (by rw[(LP hs).bad];decide)) trivial rfl Xp (RA O) rfl v.se (λ_ _=>rfl) rfl⟩
  have u:Ep a.op=true:=O9 O;by_cases m:a.op=10
  ·grind [TJ]
  rw[if_neg m];by_cases t:a.op=15
  ·rw[if_pos t];obtain⟨b1,j,y⟩:=gX hl (AN v a.pa).1 a.n a.fl;exact M7 r O b1 i u j (aAk oa _ _ _)
  rw[if_neg t];cases hs:Cc (AJ k a.pa)with
  |none=>exact⟨rfl,B4 V⟩
  |some s=>
   have b:=LP hs;have hl:=b.len;simp only;rw[if_neg wa];by_cases ta:a.op=16
   ·rw[if_pos ta];have w:(Dd s.rs).length<=s.rs.length:=by unfold Dd;rw[Qs];exact Zt _ _
    have g:∀n∈Dd s.rs,1<=n∧n<=30:=λn w=>by
     obtain⟨x,p,rfl⟩:=Qn.1 w;exact DO b x (QN.1 p).1
    refine⟨rfl,DW .done rfl trivial rfl Xp u (by simp[D6,Bl,Oc.op,HM]) ⟨?_,?_⟩ r⟩
    ·grind [D6,Bl,Oc.op,HM]
    ·grind [D6,Bl,Oc.op,HM,DR,L9,Cp,Wf]
   rw[if_neg ta];have tb:=λc=>M6 hl a.ns c
   have z:=λc=>wY b a.ns c
   by_cases na:a.op=11
   ·rw[if_pos na];exact M7 r (Ql _) (tb 280).1 i u (tb 280).2.1 (λn h=>nomatch h)
   rw[if_neg na];by_cases f:a.op=12
   ·rw[if_pos f];exact M7 r (Ql _) (tb 281).1 i u (tb 281).2.1 (λn h=>nomatch h)
   rw[if_neg f];exact M7 r (by have:=(tb 282).2.2;omega) (tb 282).1 i u (tb 282).2.1 (z 282)
def SG{v:Vw}{a:Ak}(r:Ih v)(x:IV a)(f:F25 [IB v,Ic a]=some (.int .i64 0))(i:Ay a.pa=0)(q:10<=a.op∧a.op<=16):Ip v a (Co v a):=by
 refine⟨λk g=>?_,λk g w=>?_,λk g w=>?_,λk=>if(AJ k a.pa).2.2=true then 0 else 1,λk=>by dsimp only;split<;>decide,λk d g w=>?_⟩
 ·obtain⟨ol,h⟩:=aYl r x g q;rcases(by omega:a.op=10∨a.op=11∨a.op=12∨a.op=13∨a.op=14∨a.op=15∨a.op=16)with e|e|e|e|e|e|e
  ·exact BR .o10 a k e f _ _ h
  ·exact BR .o11 a k e f _ _ h
  ·exact BR .o12 a k e f _ _ h
  ·exact BR .o13 a k e f _ _ h
  ·exact BR .o14 a k e f _ _ h
  ·exact BR .o15 a k e f _ _ h
  ·exact BR .o16 a k e f _ _ h
 ·cases hm:(AJ k a.pa).2.2 with
  |true=>exact((En (v:=v) r i q).1 hm).2
  |false=>
   rw[(En (v:=v) r i q).2 hm]at w;exact absurd w (Hm (L9 i))
 ·cases hm:(AJ k a.pa).2.2 with
  |true=>exact absurd ((En (v:=v) r i q).1 hm).1 w
  |false=>exact⟨_,_,(En (v:=v) r i q).2 hm⟩
 ·cases hm:(AJ k a.pa).2.2 with
  |true=>exact absurd ((En (v:=v) r i q).1 hm).1 w
  |false=>
   rw[(En (v:=v) r i q).2 hm];show(if(CU (A2 k (Ao 1 a.pa 0) false d) (Ao 1 a.pa 0)).2.2=true then 0 else 1)<(if(AJ k a.pa).2.2=true then 0 else 1);rw[(Hl k _ d _).1 rfl,hm];decide
def Mm(v:Vw)(a:Ak)(k:Kn):Oc:=
 if(FL k ([109,47]++a.pa++[47])).2.2=false then Dy v ([109,47]++a.pa++[47]) true
 else {HM v with rep:=IY (.names (decide (GT a.pa (Ce (FL k ([109,47]++a.pa++[47])).2.1)=[])) ((uO a.pa (Ce (FL k ([109,47]++a.pa++[47])).2.1)).take 64))}
def V3{z:Bs}{l:List Bs}(h:GT z l=[]):uO z l=[]:=by unfold uO lM;rw[h,List.mergeSort_nil];rfl
def aCn{l:List Bs}(h:∀s∈l,s.length<=1000000):∀s∈Ce l,s.length<=1000000:=λs j=>Qd (Cp (Pi j)) V
def aEn{v:Vw}{a:Ak}(r:Ih v)(x:IV a)(s:F25 [IB v,Ic a]=some (.int .i64 0))(q:a.op=17):Ip v a (Mm v a):=by
 have y:a.pa.length<=1000000:=Yt
 refine⟨λk g=>?_,λk g w=>?_,λk g w=>?_,λk=>if(FL k ([109,47]++a.pa++[47])).2.2=true then 0 else 1,λk=>by dsimp only;split<;>decide,λk d g w=>?_⟩
 ·have o:k.ls.length<=1000:=by have:=g.ls;omega
  have u:=aLm k ([109,47]++a.pa++[47]) o;unfold Mm;cases hm:(FL k ([109,47]++a.pa++[47])).2.2 with
  |false=>
   rw[if_pos rfl];rw[hm]at u;exact BR .o17 a k q s _ _ (aFY TG ⟨v,a,k⟩ (HM v) _ _ (λ_=>rfl) _ _ y u (Rp ⟨v,a,k⟩ (HM v) _ _ (IT v)))
  |true=>
   rw[if_neg V];rw[hm]at u;obtain⟨b1,j⟩:=aQO g ([109,47]++a.pa++[47]);generalize (FL k ([109,47]++a.pa++[47])).2.1=f at *;have z:=yA f;have t:=aSk a.pa (Ce f);exact BR .o17 a k q s _ _ (aSu TG ⟨v,a,k⟩ (HM v) _ (λ_=>rfl) _ _ y u b1 j (decide (GT a.pa (Ce f)=[])) (uO a.pa (Ce f)) (λb _=>aLu O (aCn j)) O (λe=>V3 (of_decide_eq_true e)) (LC ⟨v,a,k⟩ (HM v) (.names _ _) (λ_=>rfl) (by show((uO a.pa (Ce f)).take 64).length<=1000;rw[List.length_take];omega) (λe=>by rw[V3 (of_decide_eq_true e)];rfl)))
 ·unfold Mm at w ⊢;cases hm:(FL k ([109,47]++a.pa++[47])).2.2 with
  |false=>rw[hm,if_pos rfl]at w;simp[Dy]at w
  |true=>
   rw[if_neg V];exact GX (.names _ _) (if_pos ⟨Xu,aFw _ _⟩) (λe=>by rw[V3 (of_decide_eq_true e)];rfl) rfl Xp (RA O) rfl v.se (λ_ _=>rfl) rfl
 ·unfold Mm at w ⊢;cases hm:(FL k ([109,47]++a.pa++[47])).2.2 with
  |true=>rw[hm,if_neg V]at w;exact absurd rfl w
  |false=>exact⟨_,_,if_pos rfl⟩
 ·unfold Mm at w ⊢;cases hm:(FL k ([109,47]++a.pa++[47])).2.2 with
  |true=>rw[hm,if_neg V]at w;exact absurd rfl w
  |false=>
   rw[if_pos rfl];show(if(FL (A2 k ([109,47]++a.pa++[47]) true d) ([109,47]++a.pa++[47])).2.2=true then 0 else 1)<(if(FL k ([109,47]++a.pa++[47])).2.2=true then 0 else 1);rw[aJv,hm];decide
def Oz(a:Ak):Int:=if a.op=18 then 0 else a.n
def Fo(k:Kn)(a:Ak):Rw×Int:=IK (EB (Cc (AJ k a.pa))) (Oz a)
def Cu(k:Kn)(a:Ak):Bs:=Ao 2 a.pa (Fo k a).1.1
def TR(k:Kn)(a:Ak):Bs:=if(CU k (Cu k a)).2.1=true then(CU k (Cu k a)).1 else []
def CD(v:Vw)(a:Ak)(k:Kn):Oc:=
 if(AJ k a.pa).2.2=false then Dy v (Ao 1 a.pa 0) false
 else if(Cc (AJ k a.pa)).isSome=false then Fz v 6
 else if(Fo k a).2≠0 then Fz v (Fo k a).2
 else if(CU k (Cu k a)).2.2=false then Dy v (Cu k a) false
 else if a.op=9 then {HM v with rep:=IY (.found (Fo k a).1.1 (TR k a))}
 else if(AJ k a.ot).2.2=false then Dy v (Ao 1 a.ot 0) false
 else Dt v a.ot (EB (Cc (AJ k a.ot))) (-1) (TR k a)
section
variable{v:Vw}{a:Ak}{k:Kn}
def cR(g:IU k):(TR k a).length<=400:=by
 grind [TR,tV]
def aIx(r:Rw):rwD r= .agg [.int .i64 r.1,.bool r.2.1,.bool r.2.2]:=rfl
def aYm(i:Ih v)(x:IV a)(m:IU k)(g:a.op=9∨a.op=18):∃ol,bY ⟨v,a,k⟩ (HM v) []=some (.tup [],CD v a k,ol):=by
 have s:a.pa.length<=1000000:=Yt
 have d:a.ot.length<=1000000:=by have:=x.ok.ot;omega
 have f:k.es.length<=1000:=by have:=m.es;omega
 have fb:=cR (a:=a) m;unfold CD;cases hm:(AJ k a.pa).2.2 with
 |false=>
  rw[if_pos rfl];exact⟨_,aFX ⟨v,a,k⟩ (HM v) _ _ _ (λ_=>rfl) (Oe m s hm)⟩
 |true=>
  rw[if_neg V];have z:=Ms (v:=v) (a:=a) m s hm;have w:=Er (AJ k a.pa);have hl:=w.len;cases hs:(Cc (AJ k a.pa)).isSome with
  |false=>
   rw[if_pos rfl];rw[hs]at z;exact⟨_,aFW ⟨v,a,k⟩ (HM v) _ _ _ (λ_=>rfl) z (w54 v a k V)⟩
  |true=>
   rw[if_neg V];rw[hs]at z;have p:=aLl (EB (Cc (AJ k a.pa))) (Oz a) O;rw[aIx]at p;have c:=rR (EB (Cc (AJ k a.pa))) (Oz a);have r:=C5 2 (Fo k a).1.1 a.pa s;have u:=Rr k (Cu k a) f;unfold TR at fb ⊢;unfold Fo Cu Fo at *;generalize IK (EB (Cc (AJ k a.pa))) (Oz a)=row at *;obtain⟨⟨n,j,r2⟩,e⟩:=row;simp only at *;by_cases y:e≠0
   ·rw[if_pos y];rcases g with h9|h18
    ·have b:Oz a=a.n:=by unfold Oz;rw[h9];rfl
     rw[b]at p;exact⟨_,aAM ⟨v,a,k⟩ (HM v) _ _ _ (λ_=>rfl) z h9 n e j r2 p y (w54 v a k O)⟩
    ·have b:Oz a=0:=by unfold Oz;rw[if_pos h18]
     rw[b]at p;exact⟨_,pV ⟨v,a,k⟩ (HM v) _ _ _ (λ_=>rfl) z h18 n e j r2 p y (w54 v a k O)⟩
   ·rw[if_neg y];obtain rfl:=Decidable.not_not.1 y;generalize Ao 2 a.pa n=q at *;generalize CU k q=en at *;obtain⟨t1,t2,t3⟩:=en;simp only at *;rcases g with h9|h18
    ·have b:Oz a=a.n:=by unfold Oz;rw[h9];rfl
     rw[b]at p;cases t3 with
     |false=>
      rw[if_pos rfl];exact⟨_,aAL ⟨v,a,k⟩ (HM v) _ _ _ (λ_=>rfl) z h9 n j r2 p q _ _ r u (Rp ⟨v,a,k⟩ (HM v) q false (IT v))⟩
     |true=>
      rw[if_neg V,if_pos h9];cases t2 with
      |true=>exact⟨_,iW ⟨v,a,k⟩ (HM v) _ _ _ (λ_=>rfl) z h9 n j r2 p q _ r u (LC ⟨v,a,k⟩ (HM v) (.found n t1) (λ_=>rfl) trivial trivial)⟩
      |false=>exact⟨_,WO ⟨v,a,k⟩ (HM v) _ _ _ (λ_=>rfl) z h9 n j r2 p q _ r u (LC ⟨v,a,k⟩ (HM v) (.found n []) (λ_=>rfl) trivial trivial)⟩
    ·have b:Oz a=0:=by unfold Oz;rw[if_pos h18]
     have h9:¬a.op=9:=O
     rw[b]at p;cases t3 with
     |false=>
      rw[if_pos rfl];exact⟨_,pU ⟨v,a,k⟩ (HM v) _ _ _ (λ_=>rfl) z h18 n j r2 p q _ _ r u (Rp ⟨v,a,k⟩ (HM v) q false (IT v))⟩
     |true=>
      rw[if_neg V,if_neg h9];cases hm2:(AJ k a.ot).2.2 with
      |false=>
       rw[if_pos rfl];have t:=Oe (v:=v) (a:=a) m d hm2;cases t2 with
       |true=>exact⟨_,O_ ⟨v,a,k⟩ (HM v) _ _ (λ_=>rfl) z h18 n j r2 p q _ r u _ _ t⟩
       |false=>exact⟨_,N1 ⟨v,a,k⟩ (HM v) _ _ (λ_=>rfl) z h18 n j r2 p q _ r u _ _ t⟩
      |true=>
       rw[if_neg V];have t:=Ms (v:=v) (a:=a) m d hm2;cases t2 with
       |true=>
        obtain⟨ol,o⟩:=aPZ (a:=a) (k:=k) i d (Er (AJ k a.ot)) (cas:=-1) (data:=t1) (by simp only[if_true]at fb;omega);exact⟨_,iX ⟨v,a,k⟩ (HM v) _ _ _ (λ_=>rfl) z h18 n j r2 p q _ r u _ _ t o⟩
       |false=>
        obtain⟨ol,o⟩:=aPZ (a:=a) (k:=k) i d (Er (AJ k a.ot)) (cas:=-1) (data:=[]) (Ql _);exact⟨_,WP ⟨v,a,k⟩ (HM v) _ _ _ (λ_=>rfl) z h18 n j r2 p q _ r u _ _ t o⟩
def uH(r:Ih v)(g:IU k)(i:Ay a.pa=0)(t:a.op=18->Ay a.ot=0)(n:a.op=9∨a.op=18):((CD v a k).need=[]->LH v a (CD v a k))∧((CD v a k).need≠[]->∃q li,CD v a k=Dy v q li):=by
 have z:=cR (a:=a) g;have fin:∀{o:Oc},o.need=[]->LH v a o->(o.need=[]->LH v a o)∧(o.need≠[]->∃q li,o=Dy v q li):=λu y=>⟨λ_=>y,λh=>absurd u h⟩
 have b:∀{q:Bs} {li:Bool},q≠[]->((Dy v q li).need=[]->LH v a (Dy v q li))∧((Dy v q li).need≠[]->∃m d,Dy v q li=Dy v m d):=λh=>⟨λe=>absurd e h,λ_=>⟨_,_,rfl⟩⟩
 unfold CD;cases hm:(AJ k a.pa).2.2 with
 |false=>rw[if_pos rfl];exact b (Hm (L9 i))
 |true=>
  rw[if_neg V];cases hs:(Cc (AJ k a.pa)).isSome with
  |false=>rw[if_pos rfl];exact fin rfl (B4 V)
  |true=>
   rw[if_neg V];have c:=rR (EB (Cc (AJ k a.pa))) (Oz a);by_cases he:(Fo k a).2≠0
   ·rw[if_pos he];exact fin rfl (B4 ⟨by unfold Fo at *;omega,c.2⟩)
   rw[if_neg he];have j:1<=(Fo k a).1.1∧(Fo k a).1.1<=30:=dQ (Er _) (Decidable.not_not.1 he);cases ht:(CU k (Cu k a)).2.2 with
   |false=>rw[if_pos rfl];exact b (Hm (Oo i j))
   |true=>
    rw[if_neg V];by_cases x:a.op=9
    ·rw[if_pos x];exact fin rfl (GX (.found _ _) (if_pos ⟨O,O,z⟩) trivial rfl Xp (RA O) rfl v.se (λ_ _=>rfl) rfl)
    rw[if_neg x];have f:a.op=18:=O
    cases hm2:(AJ k a.ot).2.2 with
    |false=>rw[if_pos rfl];exact b (Hm (L9 (t f)))
    |true=>
     rw[if_neg V];obtain⟨s,w⟩:=TJ (v:=v) (a:=a) r (p:=a.ot) (Er (AJ k a.ot)) (cas:=-1) (data:=TR k a) (t f) (O9 O);exact fin s w
def FZ(k:Kn)(a:Ak):Nat:=if(AJ k a.pa).2.2=false then 3 else if(CU k (Cu k a)).2.2=false then 2 else if(AJ k a.ot).2.2=false then 1 else 0
def aIN(k:Kn)(a:Ak):FZ k a<=3:=by
 unfold FZ
 repeat' split
 all_goals decide
def aAe(w:(CD v a k).need≠[]):((AJ k a.pa).2.2=false∧CD v a k=Dy v (Ao 1 a.pa 0) false)∨((AJ k a.pa).2.2=true∧(CU k (Cu k a)).2.2=false∧CD v a k=Dy v (Cu k a) false)∨((AJ k a.pa).2.2=true∧(CU k (Cu k a)).2.2=true∧(AJ k a.ot).2.2=false∧CD v a k=Dy v (Ao 1 a.ot 0) false):=by
 unfold CD at w ⊢;cases hm:(AJ k a.pa).2.2 with
 |false=>rw[if_pos rfl];exact .inl ⟨rfl,rfl⟩
 |true=>
  rw[hm,if_neg V]at w;rw[if_neg V];split at w
  ·exact absurd rfl w
  rename_i c1;rw[if_neg c1];split at w
  ·exact absurd rfl w
  rename_i c2;rw[if_neg c2];cases ht:(CU k (Cu k a)).2.2 with
  |false=>rw[if_pos rfl];exact .inr (.inl ⟨rfl,rfl,rfl⟩)
  |true=>
   rw[ht,if_neg V]at w;rw[if_neg V];split at w
   ·exact absurd rfl w
   rename_i t;rw[if_neg t];cases hm2:(AJ k a.ot).2.2 with
   |false=>rw[if_pos rfl];exact .inr (.inr ⟨rfl,rfl,rfl,rfl⟩)
   |true=>
    rw[hm2,if_neg V]at w;unfold Dt at w;split at w
    ·exact absurd rfl w
    ·exact absurd rfl w
def aAf(d:Dk)(w:(CD v a k).need≠[]):FZ (A2 k (CD v a k).need (CD v a k).li d) a<FZ k a:=by
 rcases aAe w with ⟨u,y⟩|⟨u,y,o⟩|⟨u,y,o,j⟩
 ·rw[y];show FZ (A2 k (Ao 1 a.pa 0) false d) a<FZ k a;have e:(AJ (A2 k (Ao 1 a.pa 0) false d) a.pa).2.2=true:=(Hl k _ d _).1 rfl;unfold FZ;rw[e,u];simp only[ZE,if_false,if_true]
  repeat' split
  all_goals decide
 ·rw[o];show FZ (A2 k (Cu k a) false d) a<FZ k a;have p:Ao 1 a.pa 0≠Cu k a:=λe=>by
   unfold AJ at u;rw[e,y]at u;cases u
  have e:AJ (A2 k (Cu k a) false d) a.pa=AJ k a.pa:=(Hl k _ d _).2 p.symm;have t:Fo (A2 k (Cu k a) false d) a=Fo k a:=by unfold Fo;rw[e]
  have i:Cu (A2 k (Cu k a) false d) a=Cu k a:=by
   show Ao 2 a.pa (Fo (A2 k (Cu k a) false d) a).1.1=Ao 2 a.pa (Fo k a).1.1;rw[t]
  have f:(CU (A2 k (Cu k a) false d) (Cu k a)).2.2=true:=(Hl k _ d _).1 rfl;unfold FZ;rw[e,u,y,i,f];simp only[ZE,if_false,if_true];split<;>decide
 ·rw[j];show FZ (A2 k (Ao 1 a.ot 0) false d) a<FZ k a;have p:Ao 1 a.pa 0≠Ao 1 a.ot 0:=λe=>by
   unfold AJ at u o;rw[e,o]at u;cases u
  have z:Cu k a≠Ao 1 a.ot 0:=λe=>by
   unfold AJ at o;rw[e,o]at y;cases y
  have e:AJ (A2 k (Ao 1 a.ot 0) false d) a.pa=AJ k a.pa:=(Hl k _ d _).2 p.symm;have t:Fo (A2 k (Ao 1 a.ot 0) false d) a=Fo k a:=by unfold Fo;rw[e]
  have i:Cu (A2 k (Ao 1 a.ot 0) false d) a=Cu k a:=by
   show Ao 2 a.pa (Fo (A2 k (Ao 1 a.ot 0) false d) a).1.1=Ao 2 a.pa (Fo k a).1.1;rw[t]
  have f:CU (A2 k (Ao 1 a.ot 0) false d) (Cu k a)=CU k (Cu k a):=(Hl k _ d _).2 z.symm;have g:(AJ (A2 k (Ao 1 a.ot 0) false d) a.ot).2.2=true:=(Hl k _ d _).1 rfl;unfold FZ;rw[e,u,i,f,y,g,o];decide
end
def gR{v:Vw}{a:Ak}(r:Ih v)(x:IV a)(f:F25 [IB v,Ic a]=some (.int .i64 0))(i:Ay a.pa=0)(y:a.op=18->Ay a.ot=0)(q:a.op=9∨a.op=18):Ip v a (CD v a):=by
 refine⟨λk g=>?_,λk g w=>(uH r g i y q).1 w,λk g w=>(uH r g i y q).2 w,λk=>FZ k a,λk=>aIN k a,λk d _ w=>aAf d w⟩;obtain⟨ol,h⟩:=aYm r x g q;rcases q with e|e
 ·exact BR .o9 a k e f _ _ h
 ·exact BR .o18 a k e f _ _ h
def aJV{v:Vw}{a:Ak}(r:Ih v)(x:IV a):∃dec,Ip v a dec∧(FJ v a≠0->∀k,dec k=Fz v (FJ v a))∧(FJ v a=0->(a.op<=8∧∀k,PJ v a (dec k))∨(a.op=17∧dec=Mm v a)∨(Ay a.pa=0∧(a.op=18->Ay a.ot=0)∧((a.op=9∨a.op=18)∧dec=CD v a∨(10<=a.op∧a.op<=16)∧dec=Co v a))):=by
 have s:=bM r.ok x.ok;have f:=aIK v a;by_cases h:FJ v a=0
 ·rw[h]at s;have d:=oX h;obtain⟨u,y⟩:=aUm d x.ok.op0;by_cases q:a.op<=8
  ·obtain⟨dec,X,j⟩:=aJT r x s d u q;exact⟨dec,X,λe=>absurd h e,λ_=> .inl ⟨q,j⟩⟩
  have i:=aIS d O y;by_cases t:a.op=17
  ·exact⟨_,aEn r x s t,λe=>absurd h e,λ_=> .inr (.inl ⟨t,rfl⟩)⟩
  by_cases b:a.op=9∨a.op=18
  ·exact⟨_,gR r x s i (λe=>R3 d e) b,λe=>absurd h e,λ_=> .inr (.inr ⟨i,λe=>R3 d e,.inl ⟨b,rfl⟩⟩)⟩
  ·exact⟨_,SG r x s i O,λe=>absurd h e,λ_=> .inr (.inr ⟨i,λe=>R3 d e,.inr ⟨O,rfl⟩⟩)⟩
 ·exact⟨_,aEo s O,λ_ _=>rfl,λe=>absurd e h⟩
def RK{q:UInt8}:∀{l:List Bs},l≠[]->(∀w∈l,q∉w)->splitC q (Lib.join l [q])=l
 |[],h,_=>absurd rfl h
 |[x],_,h=>by
  have e:Lib.join [x] [q]=x:=XT
  rw[e];exact split_one (h x (List.mem_singleton_self _))
 |x::y::r,_,h=>by
  have e:Lib.join (x::y::r) [q]=x++q::Lib.join (y::r) [q]:=XT
  rw[e,split_word (h x (Qj ..)),RK U (λw k=>h w (Qg _ k))]
def O6{s:Bs}{q:UInt8}(h:s.length<=1000000):D5 [.str s,.str [q]]=some (.slice false [] (strsD (splitC q s))):=if_pos h
def ryQ:Ry->Ry
 | .about s=> .about {s with nl:=decide (s.rs=[])}
 | .names _ l=> .names (decide (l=[])) l
 |y=>y
def ryS:Ry->Prop
 | .fail _=>False
 | .names _ l=>(∀w∈l,(44:UInt8)∉w)∧l≠[[45]]∧CN l<=900000
 |_=>True
def ten{p:Nat->Value->Prop}{vs:Array Value}{m n v2 e c f a g y k:Value}(r:vs=#[m,n,v2,e,c,f,a,g,y,k])(h:∀j v,vs[j]?=some v->p j v):p 0 m∧p 1 n∧p 2 v2∧p 3 e∧p 4 c∧p 5 f∧p 6 a∧p 7 g∧p 8 y∧p 9 k:=by
 subst r;exact⟨h 0 _ rfl,h 1 _ rfl,h 2 _ rfl,h 3 _ rfl,h 4 _ rfl,h 5 _ rfl,h 6 _ rfl,h 7 _ rfl,h 8 _ rfl,h 9 _ rfl⟩
def f93(e:Int):Array Value:=#[.int .u8 0,.int .i64 e,.int .i64 0,.string ⟨#[]⟩,.slice none 0 0,.int .i64 0,.bool false,.int .i64 0,.slice none 0 0,.bool false]
inductive Psd:Bs->D->Prop
 |none:Psd [] (.tup [.agg (Iv (.fail 0)),.int .i64 4])
 |fail (e:Int) (s:Bs):1<=e∧e<=99->splitC 32 s=Pc (.fail e)->Psd s (.tup [.agg (Iv (.fail e)),.int .i64 0])
 |ok (y:Ry) (s:Bs):ryG y->ryS y->MY y=0->splitC 32 s=Pc y->Psd s (.tup [.agg (Iv (ryQ y)),.int .i64 0])
structure Md where
 vw:Vw
 tr:Tr
 room:Int
def Ij(m:Md):List D:=It m.vw++[HV m.tr,.int .i64 m.room]
def DT(x:Op1)(t:Tr):Tr:=if x.1=1 then t.put x.2.1 x.2.2 else if x.1=2 then Tr.delT x.2.1 t else if x.1=3 then Tr.dropT x.2.1 t else t
def Bg:List Op1->Tr->Tr
 |[],t=>t
 |x::r,t=>Bg r (DT x t)
def Bu(t:Tr)(q:Bs):List (Bs×Bs):=(t.lst.drop (t.rank q)).takeWhile λx=>A7 x.1 q
def Ft(t:Tr)(q:Bs):Dk:=⟨false,[(q,(t.get q).getD [],(t.get q).isSome)],false,[(q,(Bu t q).isEmpty,(Bu t q).map (·.1))]⟩
def Vx(dec:Kn->Oc)(t:Tr):Nat->Kn->Oc
 |0,k=>dec k
 |f+1,k=>if(dec k).need=[]then dec k else Vx dec t f (A2 k (dec k).need (dec k).li (Ft t (dec k).need))
def kn0:Kn:=⟨[],[]⟩
structure TrI (t:Tr) (room:Int):Prop where
 ord:Tr.Ord t.lst
 key:∀x∈t.lst,x.1.length<=100
 val:∀x∈t.lst,x.2.length<=400
 wgt:(Tr.weighL t.lst:Int)<=room
 top:room<=70000
structure MZ (m:Md):Prop where
 vw:Ih m.vw
 tr:TrI m.tr m.room
def TrI.len{t:Tr}{room:Int}(h:TrI t room):t.lst.length<=1945:=by
 have u:=Tr.weigh_len t.lst;have:=h.wgt;have:=h.top;omega
structure KnJ (k:Kn) (j:Nat):Prop where
 es:k.es.length<=j
 ls:k.ls.length<=j
 et:∀x∈k.es,x.2.1.length<=400
 lt:∀x∈k.ls,x.2.2.length<=2000∧∀s∈x.2.2,s.length<=1000000
def KnJ.ok{k:Kn}{j:Nat}(h:KnJ k j)(z:j<=20):IU k:=⟨Qd h.es z,Qd h.ls z,h.et,h.lt⟩
def aMU:KnJ kn0 0:=⟨Qh _,Qh _,λx p=>XA,λx p=>XA⟩
def aQQ(t:Tr)(q:Bs):((Ft t q).lss.find? λx=>decide (x.1=q))=some (q,(Bu t q).isEmpty,(Bu t q).map (·.1)):=by simp[Ft]
def aQR(t:Tr)(q:Bs):((Ft t q).its.find? λx=>decide (x.1=q))=some (q,(t.get q).getD [],(t.get q).isSome):=by simp[Ft]
def fG(k:Kn)(t:Tr)(q:Bs):A2 k q false (Ft t q)={k with es:=k.es++[(q,(t.get q).getD [],(t.get q).isSome)]}:=by
 unfold A2;rw[if_neg V,aQR];rfl
def fF(k:Kn)(t:Tr)(q:Bs):A2 k q true (Ft t q)={k with ls:=k.ls++[(q,(Bu t q).isEmpty,(Bu t q).map (·.1))]}:=by
 unfold A2;rw[if_pos rfl,aQQ];rfl
def qV(t:Tr)(q:Bs):(Bu t q).Sublist t.lst:=(List.takeWhile_sublist _).trans (ZI _ _)
def KnJ.learn{k:Kn}{j:Nat}(h:KnJ k j){t:Tr}{room:Int}(m:TrI t room)(q:Bs)(li:Bool):KnJ (A2 k q li (Ft t q)) (j+1):=by
 cases li with
 |false=>
  rw[fG];refine⟨by simp only[QB,Qk,Qz];have:=h.es;omega,ZJ h.ls,λx hx=>?_,h.lt⟩;rcases Qu.1 hx with hx|hx
  ·exact h.et x hx
  ·rw[Qc.1 hx];show((t.get q).getD []).length<=400;cases hg:t.get q with
   |none=>exact Ql _
   |some v=>
    rw[Tr.get_lst q t m.ord]at hg;exact m.val _ (Tr.getL_some hg)
 |true=>
  rw[fF];refine⟨ZJ h.es,by simp only[QB,Qk,Qz];have:=h.ls;omega,h.et,λx hx=>?_⟩;rcases Qu.1 hx with hx|hx
  ·exact h.lt x hx
  ·rw[Qc.1 hx];have n:=qV t q;refine⟨?_,λs c=>?_⟩
   ·show((Bu t q).map (·.1)).length<=2000;rw[Qs];have:=n.length_le;have:=m.len;omega
   ·obtain⟨y,o,rfl⟩:=Qn.1 c;exact Qd (m.key y (n.subset o)) V
def rM{v:Vw}{a:Ak}{dec:Kn->Oc}(X:Ip v a dec){R:Kn->Nat}(x:∀k d,IU k->(dec k).need≠[]->R (A2 k (dec k).need (dec k).li d)<R k){t:Tr}{room:Int}(m:TrI t room):
  ∀(f j:Nat)(k:Kn),KnJ k j->j+f<=20->R k<=f->∃z,IU z∧Vx dec t f k=dec z∧(dec z).need=[]
 |0,j,k,hk,hj,hr=>by
  have u:=hk.ok O;refine⟨k,u,rfl,?_⟩;by_cases w:(dec k).need=[]
  ·exact w
  ·have:=x k (Ft t []) u w;omega
 |f+1,j,k,hk,hj,hr=>by
  have u:=hk.ok O;unfold Vx;by_cases w:(dec k).need=[]
  ·rw[if_pos w];exact⟨k,u,rfl,w⟩
  ·rw[if_neg w];have:=x k (Ft t (dec k).need) u w;exact rM X x m f (j+1) _ (hk.learn m _ _) O O
def aH1{v:Vw}(r:Ih v)(b:Bool):Ih {v with se:=b}:=⟨⟨r.ok.ml,r.ok.mp,r.ok.kl,r.ok.kp⟩,r.inv,r.srt,r.nlm,r.te,r.kl,r.ml,r.mr⟩
def Fq(dec:Kn->Oc)(m:Md):Oc:=Vx dec m.tr 4 kn0
def Ow{m:Md}(n:MZ m){a:Ak}{dec:Kn->Oc}(X:Ip m.vw a dec):(Fq dec m).need=[]∧∃k,IU k∧Fq dec m=dec k:=by
 obtain⟨R,o,x⟩:=X.term;obtain⟨k,u,y,j⟩:=rM X x n.tr 4 0 kn0 aMU V (Qd (o _) V);exact⟨(congrArg Oc.need y).trans j,k,u,y⟩
def Ck(m:Md)(o:Oc):Md×Bs:=
 if o.ops≠[]∧m.room<Tr.weighL (Bg o.ops m.tr).lst then(m,IY (.fail 7))else(⟨o.vw,Bg o.ops m.tr,m.room⟩,o.rep)
def DS(x:Op1){t:Tr}(h:Tr.Ord t.lst):Tr.Ord (DT x t).lst∧∀y∈(DT x t).lst,y∈t.lst∨(x.1=1∧y=(x.2.1,x.2.2)):=by
 unfold DT;split
 ·rename_i c;rw[Tr.lst_put _ _ t h];exact⟨Tr.ins_ord h _ _,λy s=>(Tr.ins_mem s).elim (λe=> .inr ⟨c,e⟩) .inl⟩
 split
 ·rw[Tr.lst_del _ t h];exact⟨Tr.ord_sub Zb h,λy s=> .inl (QN.1 s).1⟩
 split
 ·rw[Tr.lst_drop _ t h];exact⟨Tr.ord_sub (Tr.drop_sub _ h) h,λy s=> .inl ((Tr.drop_sub _ h).subset s)⟩
 ·exact⟨h,λy s=> .inl s⟩
def Ni:∀(l:List Op1){t:Tr},Tr.Ord t.lst->Tr.Ord (Bg l t).lst∧∀y∈(Bg l t).lst,y∈t.lst∨∃x∈l,x.1=1∧y=(x.2.1,x.2.2)
 |[],t,h=>⟨h,λy s=> .inl s⟩
 |x::r,t,h=>by
  obtain⟨u,f⟩:=DS x h;obtain⟨o,j⟩:=Ni r u;refine⟨o,λy s=>?_⟩;rcases j y s with h5|⟨z,d,h5⟩
  ·rcases f y h5 with h6|h6
   ·exact .inl h6
   ·exact .inr ⟨x,Qj,h6⟩
  ·exact .inr ⟨z,Qg _ d,h5⟩
def aIh{t:Tr}{room:Int}(h:TrI t room){l:List Op1}(hl:IF l)(k:(Tr.weighL (Bg l t).lst:Int)<=room):TrI (Bg l t) room:=by
 obtain⟨u,y⟩:=Ni l h.ord;refine⟨u,λx p=>?_,λx p=>?_,k,h.top⟩
 ·rcases y x p with h3|⟨z,d,_,rfl⟩
  ·exact h.key x h3
  ·exact(hl.ok z d).1.1
 ·rcases y x p with h3|⟨z,d,_,rfl⟩
  ·exact h.val x h3
  ·exact(hl.ok z d).1.2.1
structure aZL (m:Md) (a:Ak) (z:Md×Bs):Prop where
 md:MZ z.1
 room:z.1.room=m.room
 key:z.1.vw.key=m.vw.key
 rep:∃y,MY y=0∧ryN y∧z.2=IY y∧((∃e,y= .fail e)->z.1=m)
 ro:(a.op=1∨a.op=9∨a.op=14∨a.op=17)->z.1=m
def P_{m:Md}(n:MZ m){a:Ak}{o:Oc}(z:LH m.vw a o):aZL m a (Ck m o):=by
 obtain⟨y,u,f,r,h4⟩:=z;have c:Ep a.op=true->¬(a.op=1∨a.op=9∨a.op=14∨a.op=17):=λk h=>by
  rw[RA O]at k;cases k
 unfold Ck;by_cases d:o.ops≠[]∧m.room<Tr.weighL (Bg o.ops m.tr).lst
 ·rw[if_pos d];exact⟨n,rfl,rfl,⟨.fail 7,rfl,trivial,rfl,λ_=>rfl⟩,λ_=>rfl⟩
 rw[if_neg d];rcases h4 with ⟨_,p,v⟩|⟨p,⟨k,v,b,q,s⟩|⟨k,v,s,w,h9⟩⟩
 ·rw[p,v];exact⟨n,rfl,rfl,⟨y,u,f,r,λ_=>rfl⟩,λ_=>rfl⟩
 ·rw[v,s];refine⟨⟨aH1 n.vw b,n.tr⟩,rfl,rfl,⟨y,u,f,r,λ⟨e,j⟩=>absurd j (p e)⟩,λx=>?_⟩;rw[q O O];rfl
 ·refine⟨⟨w,aIh n.tr s ?_⟩,rfl,h9,⟨y,u,f,r,λ⟨e,j⟩=>absurd j (p e)⟩,λx=>absurd x (c k)⟩;have:¬m.room<Tr.weighL (Bg o.ops m.tr).lst:=λh=>d ⟨v,h⟩
  omega
def aBC{α:Type}{p:α->Bool}:∀{l:List α} {k:Nat} (h:k<(l.takeWhile p).length),l[k]?=some (l.takeWhile p)[k]∧p (l.takeWhile p)[k]=true
 |[],k,h=>Xd
 |x::l,k,h=>by
  by_cases c:p x=true
  ·have e:(x::l).takeWhile p=x::l.takeWhile p:=by simp[c]
   simp only[e]at h ⊢;cases k with
   |zero=>exact⟨rfl,c⟩
   |succ k=>
    have:=aBC (l:=l) (p:=p) (k:=k) Xr;simpa using this
  ·have e:(x::l).takeWhile p=[]:=by simp[c]
   simp[e]at h
def aBE{α:Type}{p:α->Bool}:∀{l:List α},(∀x∈l,p x=true)->l.takeWhile p=l
 |[],_=>rfl
 |x::l,h=>by
  have c:=h x Qj;have e:(x::l).takeWhile p=x::l.takeWhile p:=by simp[c]
  rw[e,aBE λy s=>h y (Qg _ s)]
def aBD{α:Type}{p:α->Bool}:∀{l:List α} {x:α},l[(l.takeWhile p).length]?=some x->p x=false
 |[],x,h=>Xd
 |y::l,x,h=>by
  by_cases c:p y=true
  ·have e:(y::l).takeWhile p=y::l.takeWhile p:=by simp[c]
   rw[e]at h;exact aBD (l:=l) Xr
  ·have e:(y::l).takeWhile p=[]:=by simp[c]
   rw[e]at h;simp only[Qz,Qv,Qy]at h;subst h;simpa using c
def aP7{t:Tr}{q:Bs}{k:Nat}(h:k<(Bu t q).length):t.at_ (t.rank q+k)=some (Bu t q)[k]∧A7 (Bu t q)[k].1 q=true:=by
 rw[Tr.at_lst];have:=aBC (l:=t.lst.drop (t.rank q)) (p:=λx=>A7 x.1 q) h;rw[ZF]at this;exact this
def aH3{t:Tr}{q:Bs}{x:Bs×Bs}(h:t.at_ (t.rank q+(Bu t q).length)=some x):A7 x.1 q=false:=by
 rw[Tr.at_lst]at h;refine aBD (l:=t.lst.drop (t.rank q)) (p:=λx=>A7 x.1 q) ?_;rw[ZF];exact h
def dV:∀t:Tr,t.rank []=0
 | .nil=>rfl
 | .node l k v r=>by
  unfold Tr.rank;rw[if_neg (by cases k<;>simp[H_,Op.bytesLess])];exact dV l
def FP(t:Tr):Bu t []=t.lst:=by
 unfold Bu;rw[dV,List.drop_zero];exact aBE λx _=>XE
def lC(x:Bs×Bs)(l:List (Bs×Bs)):Tr.weighL (x::l)=Tr.costL x+Tr.weighL l:=by
 simp only[Tr.weighL,QH,Zz];omega
def lB(x:Bs×Bs)(l:List (Bs×Bs)):Tr.weighL (l++[x])=Tr.weighL l+Tr.costL x:=by
 simp only[Tr.weighL,Q5,QH,Zd,List.sum_append,Zz,List.sum_nil];omega
end Go.Vd
namespace Go.Vd
open Go.Proofs Go.RowKit Go.Shelf
attribute [local go_sem] Oper.semAt_some
def D8(n:Nat)(w:World)(t:Tr)(v:Value):Prop:=∃G:Nat->Nat,Rep w (Gh.base G) (HV t) v∧∀b,n<=b->G b=0
def D8.below{n:Nat}{w c:World}{t:Tr}{v:Value}(h:D8 n w t v)(f:Below n w c):D8 n c t v:=by
 obtain⟨G,u,y⟩:=h;refine⟨G,u.calm_to (cL t) (λp g=>?_) (λ_=>Qh _),y⟩;have:p.block<n:=by
  rcases Z4 p.block n with h|h
  ·exact h
  ·have o:p.off<G p.block:=g;rw[y _ h]at o;omega
 exact f.cell this
def D8.one{n:Nat}{w:World}{t:Tr}{v:Value}(h:D8 n w t v):v.oneCell'=true:=by
 obtain⟨G,u,_⟩:=h;exact u.leaf_one Xj
def OZ{w:World}{g:Gh}{d:D}{v:Value}(h:Rep w g d v)(q:v.oneCell'=true):Rep w g (.agg [d]) (.agg #[v]):=
 .agg [d] [v] rfl (λu m=>by rw[Qc.1 m];exact q) (λj n s z r=>by
  match j,z,r with
  |0,z,r=>cases z;cases r;exact h)
def aXp{n:Nat}{c:World}{t:Tr}{v:Value}(h:D8 n c t v)(w:n<=c.heap.size)(q:Bs)(s:t.cnt<=900000):Calls QD 49 #[.agg #[v],encStr q] c λe w'=>e= .returned (.int .i64 (t.rank q:Nat))∧Below c.heap.size c w':=by
 have k:=h.one;obtain⟨G,y,o⟩:=h;refine(EE (vs:=[.agg #[v],encStr q]) (G:=G) aRs (aG0 t q s) Xj Xj rfl (λj d u z m=>?_) (λb f=>o b O)).mono ?_
 ·match j,z,m with
  |0,z,m=>cases z;cases m;exact OZ y k
  |1,z,m=>cases z;cases m;exact .str _
 ·rintro e w' ⟨u,r,rfl,f,x⟩;exact⟨X2,f⟩
def aXo{n:Nat}{c:World}{t:Tr}{v:Value}(h:D8 n c t v)(w:n<=c.heap.size)(i:Nat)(s:t.cnt<=900000)(hi:i<=900000):Calls QD 50 #[.agg #[v],.int .i64 (i:Nat)] c λe w'=>e= .returned (.tuple #[encStr ((t.at_ i).getD ([],[])).1,encStr ((t.at_ i).getD ([],[])).2,.bool (t.at_ i).isSome])∧Below c.heap.size c w':=by
 have q:=h.one;obtain⟨G,y,o⟩:=h;refine(EE (vs:=[.agg #[v],.int .i64 (i:Nat)]) (G:=G) aRr (aGZ t i s hi) Xj Xj rfl (λj d u z m=>?_) (λb f=>o b O)).mono ?_
 ·match j,z,m with
  |0,z,m=>cases z;cases m;exact OZ y q
  |1,z,m=>cases z;cases m;exact .int _ _
 ·rintro e w' ⟨u,r,rfl,f,x⟩;unfold atD at x;obtain⟨us,rfl,ja,m⟩:=x.tup_inv
  match us,ja with
  |[u0,u1,u2],_=>exact⟨by rw[(m 0 _ u0 rfl rfl).str_inv,(m 1 _ u1 rfl rfl).str_inv,(m 2 _ u2 rfl rfl).bool_inv],f⟩
def aPj(c:World)(s p:Bs):Calls QD 51 #[encStr s,encStr p] c λe w'=>e= .returned (.bool (A7 s p))∧Below c.heap.size c w':=by
 refine(I7 aRq (aGY s p) rfl c).mono ?_;rintro e w' ⟨u,t,rfl,f,x⟩;exact⟨by rw[x.bool_inv],f⟩
structure kF (n Bt Bq:Nat) (W W':World):Prop where
 low:Below n W W'
 t:W'.heap[Bt]?=W.heap[Bt]?
 q:W'.heap[Bq]?=W.heap[Bq]?
def kF.trans{n Bt Bq:Nat}{A B C:World}(h:kF n Bt Bq A B)(k:kF n Bt Bq B C):kF n Bt Bq A C:=⟨h.low.trans k.low,k.t.trans h.t,k.q.trans h.q⟩
def kF.refl{n Bt Bq:Nat}(A:World):kF n Bt Bq A A:=⟨Below.refl _ _,rfl,rfl⟩
def kF.of{n Bt Bq:Nat}{A B:World}(h:Below A.heap.size A B)(w:n<=A.heap.size)(v:Bt<A.heap.size)(z:Bq<A.heap.size):kF n Bt Bq A B:=⟨h.mono w,h.block _ v,h.block _ z⟩
def sO{n Bt Bq:Nat}{w:World}(v:n<=w.heap.size)(m:Bt<w.heap.size)(z:Bq<w.heap.size)(W:World)(l:Nat)(o o':Obj)(hl:w.heap.size<=l)(h:W.heap[l]?=some o)(u:o.isCells=false)(y:o.isWalk=false):kF n Bt Bq W (W.putObj l o'):=
 ⟨belowK_b v W l o o' hl h u y,World.putObj_heap_other O,World.putObj_heap_other O⟩
def UZ{α:Type}{B:Nat}{J:List α->World->Prop}(c:AbidesFrom B J){s:List α}{A k:World}(h:J s A)(f:Below A.heap.size A k):J s k:=
 c s A k none h (Ci f (Qh _) none f.size) (λr e=>Xo)
theorem aH4 (n : Nat) (hn : 1 ≤ n) (l Bt Bq n₀ : Nat) (t : Tr) (q : Bs) (v : Value) (hc : t.cnt ≤ 400000) (J Jx : List (Bs × Bs) → World → Prop) {B : Nat} (hJ : AbidesFrom B J) (y : AbidesFrom B Jx)
  (hY : ∀ pre x W, J pre W → (pre ++ [x]) <+: Bu t q → YieldAt Fence.wide (n - 1) QD l #[encStr x.1, encStr x.2] W fun e W' =>
   (e = .returned (.bool true) ∧ J (pre ++ [x]) W' ∧ kF n₀ Bt Bq W W') ∨ (e = .returned (.bool false) ∧ Jx (pre ++ [x]) W'))
  (W : World) (f : W.heap[Bt]? = some (.cells #[v] 36 (0, 0))) (d : W.heap[Bq]? = some (.cells #[encStr q] 9 (0, 0))) (hT : D8 n₀ W t v) (ka : n₀ ≤ W.heap.size) (h0 : J [] W) :
  CallsIn Fence.wide n QD 48 #[.func (.yield l) #[] #[], .pointer (some ⟨Bt, 0, none⟩), .pointer (some ⟨Bq, 0, none⟩)] W fun e W' => (∃ u, e = .returned u) ∧
   ((∃ ys, ys = Bu t q ∧ J ys W') ∨ (∃ pre, pre <+: Bu t q ∧ Jx pre W')) := by
 have ja : t.rank q + (Bu t q).length ≤ 800001 := by
  have h1 := (qV t q).length_le
  have h2 : t.rank q ≤ t.cnt := by
   have : ∀ t : Tr, t.rank q ≤ t.cnt := by
    intro t
    induction t with
    | nil => exact Qh _
    | node l k v r ih1 ih2 => unfold Tr.rank; simp only [Tr.cnt]; split <;> omega
   exact this t
  rw [Tr.cnt_lst] at h1
  omega
 refine callsIn_of_wp func48 rfl trivial ?_ rfl
 simp only [ntmps48, QZ, Qk, Qz, Qr, QQ, QU, QV, Q_, QW, Qf, Qe]
 have ct := Ew f
 have cq := Ew d
 gi_wp2_with (refine ⟨trivial, ?_⟩; gi_at_call 49; refine (callsIn_wide.2 (aXp hT ka q O)).mono ?_; rintro e w1 ⟨rfl, fa⟩)
 have z := UZ hJ h0 fa
 have w := hT.below (fa.mono ka)
 have ra : Bt < W.heap.size := (Qm.1 f).1
 have ma : Bq < W.heap.size := (Qm.1 d).1
 have k1 := (fa.block _ ra).trans f
 have k2 := (fa.block _ ma).trans d
 have la := Qd ka fa.size
 gi_loopw [4] (fun i wr => ∃ k : Nat, k ≤ (Bu t q).length ∧ i = .int .i64 ((t.rank q : Int) + (k : Int)) ∧ J ((Bu t q).take k) wr ∧ n₀ ≤ wr.heap.size ∧ wr.heap[Bt]? = some (.cells #[v] 36 (0, 0)) ∧ wr.heap[Bq]? = some (.cells #[encStr q] 9 (0, 0)) ∧ D8 n₀ wr t v)
  (fun i _ => t.rank q + (Bu t q).length - (RowKit.intOf i).toNat)
 case atStart => exact ⟨0, Ql _, U, z, la, k1, k2, w⟩
 case round =>
  obtain ⟨k, hk, rfl, j, c, r1, r2, ia⟩ := hrel
  have ga := Ew r1
  have s := Ew r2
  have a := aXo ia c (t.rank q + k) O O
  rw [Int.natCast_add] at a
  by_cases ea : k < (Bu t q).length
  ·obtain ⟨u1, u2⟩ := aP7 ea
   rw [u1] at a
   obtain ⟨x, hx⟩ : ∃ x, (Bu t q)[k] = x := ⟨_, rfl⟩
   rw [hx] at a u2
   simp only [QC, Qp] at a
   have ua : (Bu t q).take k ++ [x] = (Bu t q).take (k + 1) := by rw [← hx]; exact (QJ ea).symm
   have aa : ((Bu t q).take k ++ [x]) <+: Bu t q := by rw [ua]; exact ZO _ _
   gi_wp2_with (first
    | (refine ⟨trivial, ?_⟩; gi_at_call 50; refine (callsIn_wide.2 a).mono ?_; rintro e w2 ⟨rfl, na⟩; have ca := Fc na s)
    | (refine ⟨trivial, ?_⟩; gi_at_call 51; refine (callsIn_wide.2 (aPj _ x.1 q)).mono ?_; rintro e w3 ⟨rfl, da⟩; rw [u2]; obtain ⟨fn, tmps, m, b, hy, hR⟩ := hY _ x w3 (UZ hJ (UZ hJ j na) da) aa))
   refine hR.mono ?_
   have z3 : n₀ ≤ w3.heap.size := by have := na.size; have := da.size; omega
   have l1 : Bt < wr.heap.size := (Qm.1 r1).1
   have l2 : Bq < wr.heap.size := (Qm.1 r2).1
   have p : Below wr.heap.size wr w3 := na.trans (da.mono na.size)
   rintro e W4 (⟨rfl, ba, g⟩ | ⟨rfl, o⟩)
   ·gi_wp2
    go_roundw
    case rel =>
     refine ⟨k + 1, O, ?_, by rw [← ua]; exact ba, Qd z3 g.low.size, g.t.trans ((p.block _ l1).trans r1), g.q.trans ((p.block _ l2).trans r2), (ia.below (p.mono c)).below g.low⟩
     simp
     omega
    case measure => simp [RowKit.intOf]; omega
   ·gi_wp2
    refine bodyPost_ret (results_none rfl _ _ _) rfl ?_
    exact ⟨⟨_, rfl⟩, .inr ⟨_, ZO (k + 1) _, by rw [← ua]; exact o⟩⟩
  ·obtain rfl : k = (Bu t q).length := by omega
   cases ha : t.at_ (t.rank q + (Bu t q).length) with
   | none =>
    rw [ha] at a
    simp only [Zl, Zg] at a
    gi_wp2_with (refine ⟨trivial, ?_⟩; gi_at_call 50; refine (callsIn_wide.2 a).mono ?_; rintro e w2 ⟨rfl, na⟩)
    refine ⟨trivial, ?_⟩
    gi_wp2
    refine ⟨fun _ h => Xc, ?_⟩
    gi_wp2
    refine bodyPost_ret (results_none rfl _ _ _) rfl ?_
    rw [Q7] at j
    exact ⟨⟨_, rfl⟩, .inl ⟨_, rfl, UZ hJ j na⟩⟩
   | some x =>
    have u2 := aH3 ha
    rw [ha] at a
    simp only [QC, Qp] at a
    gi_wp2_with (first
     | (refine ⟨trivial, ?_⟩; gi_at_call 50; refine (callsIn_wide.2 a).mono ?_; rintro e w2 ⟨rfl, na⟩; have ca := Fc na s)
     | (refine ⟨trivial, ?_⟩; gi_at_call 51; refine (callsIn_wide.2 (aPj _ x.1 q)).mono ?_; rintro e w3 ⟨rfl, da⟩; rw [u2]))
    refine ⟨fun _ h => Xc, ?_⟩
    gi_wp2
    refine bodyPost_ret (results_none rfl _ _ _) rfl ?_
    rw [Q7] at j
    exact ⟨⟨_, rfl⟩, .inl ⟨_, rfl, UZ hJ (UZ hJ j na) da⟩⟩
end Go.Vd
namespace Go.Vd
open Go.Proofs Go.RowKit
def aEV:=y2 f79 [] []
def NR:=y3 f38 2 [] []
def aE8:=y2 f38 [] [(2,NR)]
def SJ:=y2 f11 [(5,[(2,0)]),(8,[(6,8)]),(9,[(1,0)]),(10,[(4,2)]),(11,[(3,2)])] []
def aFf:=y2 f17 [] []
def aFe:=y2 f18 [] []
def aE4:=y2 f46 [] []
def oT:=y2 f16 [] []
def aFb:=y2 f32 [] []
def NK:=y3 f75 4 [] []
def aEX:=y2 f75 [] [(4,NK)]
def aFa:=y2 f33 [] []
def NJ:=y3 f76 4 [] []
def aEW:=y2 f76 [] [(4,NJ)]
def oQ:=y2 f77 [] []
def aE0:=y2 f71 [] []
def aE9:=y2 f36 [(4,[(1,0),(2,0),(3,0)]),(5,[(1,0),(3,0)]),(6,[(1,0)])] []
def WA:=y2 f34 [(6,[(1,2)])] []
def NU:=y3 f10 3 [] []
def aFi:=y2 f10 [] [(3,NU)]
def NV:=y3 f8 4 [] []
def aFk:=y2 f8 [] [(4,NV)]
def aFj:=y2 f9 [] []
attribute [local go_sem] Oper.semAt_some
def aXZ:=Aq []
def aPE:=RF aXZ aEV [.t 4] 12
def aRj:Kq aPE 79:=An (Aj func79) Ad
def aGO(k:Bs)(n:Nat)(g:k.length<=1000000)(w:n<=1000000):aPE [.str k,.int .i64 (n:Nat)]=some (.int .i64 ((36+k.length+min n 1048576:Nat):Int)):=by
 refine Am (Qa rfl) ?_;unfold aEV;have m:IntKind.i64.wrap (36+(k.length:Int))=((36+k.length:Nat):Int):=Xi
 have z:max (0:Int) (min (n:Int) 1048576)=((min n 1048576:Nat):Int):=O
 have t:IntKind.i64.wrap (((36+k.length:Nat):Int)+((min n 1048576:Nat):Int))=((36+k.length+min n 1048576:Nat):Int):=Xi
 simp only[HG,↓C2,HB,simprocAttr,m,z,t]
 all_goals exact Y2
open Go.Shelf
def aXn(c:World)(k:Bs)(n:Nat)(g:k.length<=1000000)(w:n<=1000000):Calls QD 79 #[encStr k,.int .i64 (n:Nat)] c λe w'=>e= .returned (.int .i64 ((36+k.length+min n 1048576:Nat):Int))∧Below c.heap.size c w':=by
 refine(I7 aRj (aGO k n g w) rfl c).mono ?_;rintro e w' ⟨u,t,rfl,f,x⟩;exact⟨X2,f⟩
abbrev O1(t:Tr)(q:Bs):={x:Bs×Bs // x∈Bu t q}
def LK(n:Nat)(hn:1<=n)(Bt Bq n₀:Nat)(t:Tr)(q:Bs)(v:Value)(r:t.cnt<=400000)(w:World)(f:w.heap[Bt]?=some (.cells #[v] 36 (0,0)))(d:w.heap[Bq]?=some (.cells #[encStr q] 9 (0,0)))(hT:D8 n₀ w t v)(o:n₀<=w.heap.size):
  SeqStopsK Fence.wide n QD 48 #[.pointer (some ⟨Bt,0,none⟩),.pointer (some ⟨Bq,0,none⟩)] (λx:O1 t q=>#[encStr x.1.1,encStr x.1.2]) (kF n₀ Bt Bq) (λys=>ys.map (·.1)=Bu t q) (λpre=>pre.map (·.1)<+:Bu t q) (Bu t q).length w:=λl J Jx W k hJ y hY b=>by
 refine(aH4 n hn l Bt Bq n₀ t q v r (λpre W=>∃p:List (O1 t q),p.map (·.1)=pre∧J p W) (λpre W=>∃p:List (O1 t q),p.map (·.1)=pre∧Jx p W) (B:=W.heap.size) (λs A B row j a i=>?_) (λs A B row j a i=>?_) (λpre x W1 z g=>?_) W ((k.block _ (Qm.1 f).1).trans f) ((k.block _ (Qm.1 d).1).trans d) (hT.below (k.mono o)) (Qd o k.size) ⟨[],rfl,b⟩).mono ?_
 ·obtain⟨p,e,h⟩:=j;exact⟨p,e,hJ p A B row h a i⟩
 ·obtain⟨p,e,h⟩:=j;exact⟨p,e,y p A B row h a i⟩
 ·obtain⟨p,rfl,h⟩:=z;have m:x∈Bu t q:=g.subset (Zu _ (Qc.2 rfl));have hl:p.length<(Bu t q).length:=by
   have:=g.length_le;simp only[QB,Qs,Qk,Qz]at this;omega
  refine(hY p ⟨x,m⟩ W1 h hl).mono ?_;rintro e W' (⟨rfl,u,h2⟩|⟨rfl,u⟩)
  ·exact .inl ⟨rfl,⟨_,U,u⟩,h2⟩
  ·exact .inr ⟨rfl,_,U,u⟩
 ·rintro e W' ⟨c,⟨ys,rfl,p,u,h2⟩|⟨pre,b,p,rfl,h2⟩⟩
  ·exact⟨c,.inl ⟨p,u,h2⟩⟩
  ·exact⟨c,.inr ⟨p,b,h2⟩⟩
def uT(w:World)(v:Value)(q:Bs):Calls QD 21 #[.agg #[v],encStr q] w λe w'=>e= .returned (.func (.func 48) #[] #[.pointer (some ⟨w.heap.size,0,none⟩),.pointer (some ⟨w.heap.size+1,0,none⟩)])∧w'=(w.alloc (.cells #[v] 36 (0,0))).alloc (.cells #[encStr q] 9 (0,0)):=by
 go_enter func21,ntmps21
 go_wp2
 go_ret
 exact Y6
def pH{α:Type}(B:Nat)(T:TypeId)(f:List α->Value):Own (λ(s:List α) W=>Boxed W B T (f s)):=λs A k row j a i=>j.kept a (λe=>by
 obtain⟨o,v,d⟩:=i _ e.symm;rw[show A.heap[B]?=_ from j]at v;cases v;cases d)
def Nh{α:Type}(m:Nat):Own (λ(_:List α) W=>m<=W.heap.size):=λs A k row j a i=>Qd j a.size
def aHW{n B Bt Bq:Nat}{w W m:World}{T:TypeId}{u:Value}(s:Value)(x:Below n w W)(f:Boxed W B T u)(c:Below W.heap.size W m)(v:n<=B)(q:Bt≠B)(y:Bq≠B)(o:Bt<W.heap.size)(j:Bq<W.heap.size)(z:n<=W.heap.size):
  KeepsOthers W (m.setCell ⟨B,0,none⟩ s)∧kF n Bt Bq W (m.setCell ⟨B,0,none⟩ s)∧Boxed (m.setCell ⟨B,0,none⟩ s) B T s∧Below n w (m.setCell ⟨B,0,none⟩ s)∧W.heap.size<=(m.setCell ⟨B,0,none⟩ s).heap.size:=by
 have p:Boxed m B T u:=(c.block _ f.lt).trans f;refine⟨(KeepsOthers.of_grownBy (Ci c (Qh _) none c.size) (λ_ _ e=>Xo)).trans (KeepsOthers.setCell _ _ _),⟨(c.mono z).setCell v _,?_,?_⟩,p.set _,(x.trans (c.mono z)).setCell v _,?_⟩
 ·rw[Below.heap_setCell _ _ _ _ q];exact c.block _ o
 ·rw[Below.heap_setCell _ _ _ _ y];exact c.block _ j
 ·have:=c.size;simpa[World.setCell]using this
def cB:∀l:List (Bs×Bs),(∀x∈l,x.1.length<=100000∧x.2.length<=100000)->Tr.weighL l<=4+200036*l.length
 |[],_=>by simp[Tr.weighL]
 |x::l,h=>by
  have u:=h x Qj;have:=cB l λy s=>h y (Qg _ s)
  rw[lC];simp only[Tr.costL,Qk];omega
def aTK(w:World)(v:Value)(t:Tr)(hT:D8 w.heap.size w t v)(s:t.cnt<=400000)(m:∀x∈t.lst,x.1.length<=100000∧x.2.length<=100000):
  Calls QD 35 #[.agg #[v]] w λe w'=>e= .returned (.int .i64 ((Tr.weighL t.lst:Nat):Int))∧Below w.heap.size w w':=by
 refine(callsIn_wide (n:=3)).1 ?_;refine callsIn_of_wp_marks func35 rfl trivial ?_ rfl;simp only[ntmps35,QZ,Qk,Qz,Qr,QQ,QU,QV,Q_,QW,Qf,Qe]
 gi_wp2_with (refine⟨trivial,?_⟩;gi_at_call 21;refine(callsIn_wide.2 (uT _ v [])).mono ?_;rintro e w' ⟨rfl,rfl⟩)
 have d:Below w.heap.size w ((((w.alloc (Obj.cells #[v] 36)).alloc (Obj.cells #[Value.int IntKind.i64 4] 3)).alloc (Obj.cells #[v] 36)).alloc (Obj.cells #[encStr []] 9)):=((((Below.refl _ w).alloc (Qh _) _).alloc U _).alloc Xb _).alloc Xb _;have hz:((((w.alloc (Obj.cells #[v] 36)).alloc (Obj.cells #[Value.int IntKind.i64 4] 3)).alloc (Obj.cells #[v] 36)).alloc (Obj.cells #[encStr []] 9)).heap.size=w.heap.size+4:=U
 have b1:Boxed ((((w.alloc (Obj.cells #[v] 36)).alloc (Obj.cells #[Value.int IntKind.i64 4] 3)).alloc (Obj.cells #[v] 36)).alloc (Obj.cells #[encStr []] 9)) (w.heap.size+1) 3 (.int .i64 4):=by
  have:=((Boxed.new (w.alloc (Obj.cells #[v] 36)) 3 (.int .i64 4)).alloc (Obj.cells #[v] 36)).alloc (Obj.cells #[encStr []] 9)
  rwa [World.size_alloc]at this
 have b2:Boxed ((((w.alloc (Obj.cells #[v] 36)).alloc (Obj.cells #[Value.int IntKind.i64 4] 3)).alloc (Obj.cells #[v] 36)).alloc (Obj.cells #[encStr []] 9)) (w.heap.size+1+1) 36 v:=by
  have:=(Boxed.new ((w.alloc (Obj.cells #[v] 36)).alloc (Obj.cells #[Value.int IntKind.i64 4] 3)) 36 v).alloc (Obj.cells #[encStr []] 9)
  rwa [World.size_alloc,World.size_alloc]at this
 have b3:Boxed ((((w.alloc (Obj.cells #[v] 36)).alloc (Obj.cells #[Value.int IntKind.i64 4] 3)).alloc (Obj.cells #[v] 36)).alloc (Obj.cells #[encStr []] 9)) (w.heap.size+1+1+1) 9 (encStr []):=by
  have:=Boxed.new (((w.alloc (Obj.cells #[v] 36)).alloc (Obj.cells #[Value.int IntKind.i64 4] 3)).alloc (Obj.cells #[v] 36)) 9 (encStr [])
  rwa [World.size_alloc,World.size_alloc,World.size_alloc]at this
 generalize ((((w.alloc (Obj.cells #[v] 36)).alloc (Obj.cells #[Value.int IntKind.i64 4] 3)).alloc (Obj.cells #[v] 36)).alloc (Obj.cells #[encStr []] 9))=W0 at d hz b1 b2 b3 ⊢;have ja:(Bu t []).length<=400000:=by rw[FP,Tr.cnt_lst];exact s
 refine wpIn_rangeFunc_ownF rfl V (gf:=48) (lb:=#[.pointer (some ⟨w.heap.size+1+1,0,none⟩),.pointer (some ⟨w.heap.size+1+1+1,0,none⟩)]) rfl trivial (enters_of func48 Z rfl)
  (LK 2 V (w.heap.size+1+1) (w.heap.size+1+1+1) w.heap.size t [] v s W0 b2 b3 (hT.below d) O) kF.trans (sO O O O) (Below.refl _ _) (λ_=>rfl)
  (λ(pre:List (O1 t [])) W=>Boxed W (w.heap.size+1) 3 (.int .i64 ((Tr.weighL (pre.map (·.1)):Nat):Int))∧Below w.heap.size w W∧w.heap.size+4<=W.heap.size)
  (λ_ _ _=>False)
  (OwnFrom.and (Own.from (pH _ _ _) _) (OwnFrom.and (ownFrom_below (Qh _) O) (Own.from (Nh _) _)))
  (λ_ _ _ _ _ k _ _=>k)
  ⟨b1,d,O⟩
  (λx=>{tmps:=#[Value.agg #[v],Value.pointer (some {block:=w.heap.size,off:=0}),Value.int IntKind.i64 0,Value.pointer (some {block:=w.heap.size+1,off:=0}),encStr x.1.1,encStr x.1.2,Value.agg #[v],Value.func (Fn.func 48) #[] #[Value.pointer (some {block:=w.heap.size+1+1,off:=0}),Value.pointer (some {block:=w.heap.size+1+1+1,off:=0})],encStr x.1.1,encStr x.1.2,undef,undef,undef,undef,undef,undef,undef],defers:=[]}) ?assign ?body ?done ?stop
 case assign=>
  intro l x W K hK
  gi_wp2
  exact hK
 case body=>
  rintro l pre ⟨x,p⟩ W ⟨q,hB,za⟩ ea;have ua:=cB (pre.map (·.1)) (λy hy=>by
   obtain⟨z,_,rfl⟩:=Qn.1 hy;exact m _ (FP t▸z.2))
  have g:Tr.weighL ((pre++[(⟨x,p⟩:O1 t [])]).map (·.1))=Tr.weighL (pre.map (·.1))+(36+x.1.length+min x.2.length 1048576):=by rw[Q5];exact lB x _
  have r:=q.cell;have j:=q.frozen;rw[FP]at p;have qa:=m x p;have b:=λwx=>aXn wx x.1 x.2.length O O
  have o:1<=3-1-1:=V
  have f:Tryz.prog.follows .mixedOrders=true:=Z
  gi_wp2
  gi_region_with_o (refine⟨trivial,?_⟩;gi_at_call 79;refine(CallsIn.inRound l (callsIn_wide.2 (b _))).mono ?_;rintro e w3 ⟨rfl,u⟩;have ga:Boxed w3 (w.heap.size+1) 3 _:=(u.block _ q.lt).trans q;have a:=ga.cell;have i:=ga.frozen)
  all_goals
   obtain⟨g1,g2,g3,g4,g5⟩:=aHW (Bt:=w.heap.size+1+1) (Bq:=w.heap.size+1+1+1) (Value.int IntKind.i64 (IntKind.i64.wrap (((Tr.weighL (Z8 (λx=>x.val) pre):Nat):Int)+(36+(x.fst.length:Int)+((min x.snd.length 1048576:Nat):Int))))) hB q ⟨u.os,u.tape,u.output,u.size,u.block⟩ O O O O O O;refine⟨g1,g2,?_,g4,O⟩;have e:IntKind.i64.wrap (((Tr.weighL (Z8 (λx=>x.val) pre):Nat):Int)+(36+(x.fst.length:Int)+((min x.snd.length 1048576:Nat):Int)))=((Tr.weighL ((pre++[(⟨x,by rw[FP];exact p⟩:O1 t [])]).map (·.1)):Nat):Int):=by
    rw[Qs]at ua;rw[g,H9 O O];omega
   rw[e]at g3 ⊢;exact g3
 case done=>
  rintro D ys W hD bb ⟨q,hB,za⟩ hK;have r:=q.cell
  gi_wp2
  refine⟨U,.inl ⟨_,_,rfl,run_takeDeferred hK,?_⟩⟩;exact⟨_,results_tmp rfl _ _ _,by rw[FP];rfl,hB.trans (belowK_b (w:=w) (Qh _) W D _ _ O hK rfl rfl)⟩
 case stop=>
  rintro D c pre W _ _ h _;exact h.elim
attribute [local go_sem] Oper.semAt_some
open Go.Shelf Go.Sort
def aPk{n:Nat}{c:World}{t:Tr}{v:Value}(h:D8 n c t v)(w:n<=c.heap.size)(q:Bs):Calls QD 27 #[.agg #[v],encStr q] c λe w'=>e= .returned (.tuple #[encStr ((t.get q).getD []),.bool (t.get q).isSome])∧Below c.heap.size c w':=by
 have k:=h.one;obtain⟨G,y,o⟩:=h;refine(EE (vs:=[.agg #[v],encStr q]) (G:=G) nC (Ob t q) Xj Xj rfl (λj d u z m=>?_) (λb f=>o b O)).mono ?_
 ·match j,z,m with
  |0,z,m=>cases z;cases m;exact OZ y k
  |1,z,m=>cases z;cases m;exact .str _
 ·rintro e w' ⟨u,r,rfl,f,x⟩;obtain⟨us,rfl,s,m⟩:=x.tup_inv
  match us,s with
  |[u0,u1],_=>exact⟨by rw[(m 0 _ u0 rfl rfl).str_inv,(m 1 _ u1 rfl rfl).bool_inv],f⟩
def pN(w:World)(c e b a:Obj):((((w.alloc c).alloc e).alloc b).alloc a).heap.size=w.heap.size+4∧((((w.alloc c).alloc e).alloc b).alloc a).heap[w.heap.size]?=some c∧((((w.alloc c).alloc e).alloc b).alloc a).heap[w.heap.size+1]?=some e∧((((w.alloc c).alloc e).alloc b).alloc a).heap[w.heap.size+1+1]?=some b∧((((w.alloc c).alloc e).alloc b).alloc a).heap[w.heap.size+1+1+1]?=some a:=by
 have u:∀(x:World)(o:Obj)(k:Nat),k<x.heap.size->(x.alloc o).heap[k]?=x.heap[k]?:=λx o k h=>Below.heap_alloc _ _ _ h
 have j:∀(x:World)(o:Obj),(x.alloc o).heap.size=x.heap.size+1:=λx o=>World.size_alloc x o
 have v:∀(x:World)(o:Obj),(x.alloc o).heap[x.heap.size]?=some o:=λx o=>World.alloc_heap_new x o
 refine⟨by simp only[j],?_,?_,?_,?_⟩
 ·rw[u _ _ _ Xt,u _ _ _ Xt,u _ _ _ Xt,v]
 ·rw[u _ _ _ Xt,u _ _ _ Xt,←j w c,v]
 ·rw[u _ _ _ Xt,←j w c,←j _ e,v]
 ·rw[←j w c,←j _ e,←j _ b,v]
def rV{w:World}{B s e j n:Nat}{v:Value}{xs:List Value}(h:w.ownsRow B e j v n xs)(f:s<=B):w.ownsRow s e j v n xs:=by
 refine⟨h.1,?_⟩;rcases h.2 with h|⟨g,cap,cur,b,u,y⟩
 ·exact .inl h
 ·exact .inr ⟨g,cap,cur,b,Qd f u,y⟩
abbrev Ig(s:Option Addr×Nat×Nat):Value:= .slice s.1 s.2.1 s.2.2
def WH(w:World)(c e b a:Obj):Below w.heap.size w ((((w.alloc c).alloc e).alloc b).alloc a):=((((Below.refl _ w).alloc (Qh _) _).alloc U _).alloc Xb _).alloc Xb _
def aAD{W:World}{B:Nat}{T:TypeId}{a b c d e:Value}(h:W.heap[B]?=some (.cells #[a,b,c,d,e] T (0,0))):
  W.cell? ⟨B,0,none⟩=some a∧W.cell? ⟨B,1,none⟩=some b∧W.cell? ⟨B,2,none⟩=some c∧W.cell? ⟨B,3,none⟩=some d∧W.cell? ⟨B,4,none⟩=some e:=by
 simp[World.cell?,h]
def Tp{W:World}{B:Nat}{T:TypeId}{cs:Array Value}(h:W.heap[B]?=some (.cells cs T (0,0)))(j:Nat):W.frozen? ⟨B,j,none⟩=false:=by
 simp[World.frozen?,h]
def T7{w:World}{b:Nat}{z0 a r m s:Value}(i e d n c:Value){T:TypeId}(h:w.heap[b]?=some (.cells #[z0,a,r,m,s] T (0,0))):
  (((((w.setCell ⟨b,0,none⟩ i).setCell ⟨b,1,none⟩ e).setCell ⟨b,2,none⟩ d).setCell ⟨b,3,none⟩ n).setCell ⟨b,4,none⟩ c).heap[b]?=some (.cells #[i,e,d,n,c] T (0,0))∧
  (((((w.setCell ⟨b,0,none⟩ i).setCell ⟨b,1,none⟩ e).setCell ⟨b,2,none⟩ d).setCell ⟨b,3,none⟩ n).setCell ⟨b,4,none⟩ c).heap.size=w.heap.size∧
  ∀k,k≠b->(((((w.setCell ⟨b,0,none⟩ i).setCell ⟨b,1,none⟩ e).setCell ⟨b,2,none⟩ d).setCell ⟨b,3,none⟩ n).setCell ⟨b,4,none⟩ c).heap[k]?=w.heap[k]?:=by
 refine⟨?_,by simp[World.setCell],λk g=>?_⟩
 ·have u:=heap_setCell_same w b 0 _ _ i h;have y:=heap_setCell_same _ b 1 _ _ e u;have o:=heap_setCell_same _ b 2 _ _ d y;have j:=heap_setCell_same _ b 3 _ _ n o;have p:=heap_setCell_same _ b 4 _ _ c j;simpa using p
 ·rw[Below.heap_setCell _ _ _ _ g,Below.heap_setCell _ _ _ _ g,Below.heap_setCell _ _ _ _ g,Below.heap_setCell _ _ _ _ g,Below.heap_setCell _ _ _ _ g]
def aP1(w:World)(k0 y k2 k3 k4:Value)(q:Bs)(i x3 x4 x5 x6 x7 x8:Value)(v:Value)(tx:Bs)(th:Bool)(QK:World->World->Value->Prop)
  (x:∀c,Below w.heap.size w c->Calls QD 27 #[.agg #[v],encStr q] c λe w'=>e= .returned (.tuple #[encStr tx,.bool th])∧Below c.heap.size c w')
  (f:∀c,Below w.heap.size w c->w.heap.size+4<=c.heap.size->Calls QD 155 #[.agg #[k0,y,k2,k3,k4],encStr q,encStr tx,.bool th] c λe w'=>∃u0 u1 m u3 u4,e= .returned (.agg #[Ig u0,Ig u1,Ig m,Ig u3,Ig u4])∧Below c.heap.size c w'∧QK c w' (.agg #[Ig u0,Ig u1,Ig m,Ig u3,Ig u4])):
  Calls QD 88 #[.agg #[k0,y,k2,k3,k4],.agg #[encStr q,.bool false,i,x3,x4,x5,x6,x7,x8],.agg #[v]] w λe w'=>∃u c s B,e= .returned u∧Below w.heap.size w c∧Below c.heap.size c s∧QK c s u∧B=w.heap.size+3∧Below w.heap.size w w'∧s.heap.size<=w'.heap.size∧∀p:Addr,p.block≠B->w'.cell? p=s.cell? p:=by
 go_enter func88,ntmps88
 go_wp2_with (first|(go_at_call 27;refine(x _ (WH _ _ _ _ _)).mono ?_;rintro e c ⟨rfl,t⟩;obtain⟨zz,y0,y1,y2,y3⟩:=pN w (Obj.cells #[k0,y,k2,k3,k4] 163) (Obj.cells #[encStr q,Value.bool false,i,x3,x4,x5,x6,x7,x8] 100) (Obj.cells #[v] 36) (Obj.cells #[Value.slice none 0 0,Value.slice none 0 0,Value.slice none 0 0,Value.slice none 0 0,Value.slice none 0 0] 163);have z:=(WH w (Obj.cells #[k0,y,k2,k3,k4] 163) (Obj.cells #[encStr q,Value.bool false,i,x3,x4,x5,x6,x7,x8] 100) (Obj.cells #[v] 36) (Obj.cells #[Value.slice none 0 0,Value.slice none 0 0,Value.slice none 0 0,Value.slice none 0 0,Value.slice none 0 0] 163)).trans (t.mono O);have q0:=(t.block _ O).trans y0;have k:=(t.block _ O).trans y1;have q3:=(t.block _ O).trans y3;obtain⟨d0,r,d2,d3,d4⟩:=aAD q0;have d5:c.cell? ⟨w.heap.size+1,0,none⟩=some (encStr q):=by simp[World.cell?,k])|(go_at_call 155;refine(f _ z (by have:=t.size;omega)).mono ?_;rintro e s ⟨u0,u1,m,u3,u4,rfl,n,d⟩;have q4:=(n.block _ (by have:=t.size;omega)).trans q3;obtain⟨b,c1,c2,c3,c4⟩:=aAD q4;have f0:=Tp q4 0;have f1:=Tp q4 1;have f2:=Tp q4 2;have f3:=Tp q4 3;have f4:=Tp q4 4))
 obtain⟨p5,ps,pk⟩:=T7 (Ig u0) (Ig u1) (Ig m) (Ig u3) (Ig u4) q4;obtain⟨s0,s1,j,s3,s4⟩:=aAD p5;have a:=t.size;have o:Below w.heap.size w s:=z.trans (n.mono z.size);refine bodyPost_ret (v:= .agg #[Ig u0,Ig u1,Ig m,Ig u3,Ig u4]) (by simp[results,results88,go_sem,s0,s1,j,s3,s4]) rfl ⟨_,c,s,w.heap.size+1+1+1,rfl,z,n,d,rfl,?_,Zo ps.symm,λp g=>by simp only[World.cell?,pk _ g]⟩;exact((((o.setCell Xb _).setCell Xb _).setCell Xb _).setCell Xb _).setCell Xb _
def aCR{n N Bt Bq B:Nat}{w W d:World}{v v':Value}{k m:Nat}{xs ys:List Value}{a:Obj}(hB:Below n w W)(f:Boxed W B 23 v)(s:W.ownsRow N 9 1 v k xs)(z:N<=W.heap.size)(c:n<=N)(ja:n<=B)(q:Bt≠B)(y:Bq≠B)(o:Bt<N)(h4:Bq<N)
  (t:d.ownsRow N 9 1 v' m ys) (ia:(W.alloc a).grownBy d v.ownBlock):
  KeepsOthers W (d.setCell ⟨B,0,none⟩ v')∧kF n Bt Bq W (d.setCell ⟨B,0,none⟩ v')∧Boxed (d.setCell ⟨B,0,none⟩ v') B 23 v'∧(d.setCell ⟨B,0,none⟩ v').ownsRow N 9 1 v' m ys∧Below n w (d.setCell ⟨B,0,none⟩ v')∧N<=(d.setCell ⟨B,0,none⟩ v').heap.size∧Boxed d B 23 v:=by
 have i:∀g,v.ownBlock=some g->N<=g:=λg x=>by
  rcases s.2 with ⟨rfl,_⟩|⟨r,cap,cur,rfl,h,_⟩
  ·cases x
  ·cases x;exact h
 have le:∀{u:Value} {W:World} {j:Nat} {zs:List Value},W.ownsRow N 9 1 u j zs->W.ownsRow n 9 1 u j zs:=λh=>rV h O
 obtain⟨g1,g2,g3,g4,g5⟩:=f.appended V (le s) O ja (le t) ia;have gb:∀b,b<N->b≠B->(d.setCell ⟨B,0,none⟩ v').heap[b]?=W.heap[b]?:=λb wa p=>by
  rw[Below.heap_setCell _ _ _ _ p];exact(ia.block b (by rw[World.size_alloc];omega) (λe=>by have:=i b e.symm;omega)).trans (Below.heap_alloc _ _ _ O)
 have ka:N<=(d.setCell ⟨B,0,none⟩ v').heap.size:=by
  have:=ia.size;rw[World.size_alloc]at this;simp only[World.setCell,Array.size_modify];omega
 exact⟨g4,⟨g5,gb Bt o q,gb Bq h4 y⟩,g2,t.kept (grownBy_setCell' d B v') (.inr (g1.not_row V t).symm),hB.trans g5,ka,g1⟩
def D8.more{n m:Nat}{w:World}{t:Tr}{v:Value}(h:D8 n w t v)(j:n<=m):D8 m w t v:=by
 obtain⟨G,u,y⟩:=h;exact⟨G,u,λb f=>y b O⟩
def qW(t:Tr)(q:Bs):(Bu t q).length<=t.lst.length:=Qd ((List.takeWhile_prefix _).length_le) X4
def aP0(w:World)(k0 k1 k2 k3 k4:Value)(q:Bs)(x2 x3 x4 x5 x6 x7 x8:Value)(v:Value)(t:Tr)(QK:World->World->Value->Prop)(hT:D8 w.heap.size w t v)(hc:t.cnt<=400000)
  (f:∀(wx:World)(vs:Value),Below w.heap.size w wx->w.heap.size+4<=wx.heap.size->wx.ownsRow (w.heap.size+7) 9 1 vs ((Bu t q).map (·.1)).length (((Bu t q).map (·.1)).map encStr)->(vs= .slice none 0 0↔(Bu t q).map (·.1)=[])->Calls QD 156 #[.agg #[k0,k1,k2,k3,k4],encStr q,vs] wx λe w'=>∃u0 u1 u2 u3 u4,e= .returned (.agg #[Ig u0,Ig u1,Ig u2,Ig u3,Ig u4])∧Below wx.heap.size wx w'∧QK wx w' (.agg #[Ig u0,Ig u1,Ig u2,Ig u3,Ig u4])):
  Calls QD 88 #[.agg #[k0,k1,k2,k3,k4],.agg #[encStr q,.bool true,x2,x3,x4,x5,x6,x7,x8],.agg #[v]] w λe w'=>∃u wx w1 B,e= .returned u∧Below w.heap.size w wx∧Below wx.heap.size wx w1∧QK wx w1 u∧B=w.heap.size+3∧Below w.heap.size w w'∧w1.heap.size<=w'.heap.size∧∀p:Addr,p.block≠B->w'.cell? p=w1.cell? p:=by
 obtain⟨i0,hi,hx⟩:=QE.1 nK;simp only[ZA]at hx;obtain⟨oa,la,pa⟩:=hx;refine(callsIn_wide (n:=3)).1 ?_;refine callsIn_of_wp_marks func88 rfl trivial ?_ rfl;simp only[ntmps88,QZ,Qk,Qz,Qr,QQ,QU,QV,Q_,QW,Qf,Qe]
 gi_wp2_with (refine⟨trivial,?_⟩;gi_at_call 21;refine(callsIn_wide.2 (uT _ v q)).mono ?_;rintro e w' ⟨rfl,rfl⟩)
 have k:=pN w (Obj.cells #[k0,k1,k2,k3,k4] 163) (Obj.cells #[encStr q,Value.bool true,x2,x3,x4,x5,x6,x7,x8] 100) (Obj.cells #[v] 36) (Obj.cells #[Value.slice none 0 0,Value.slice none 0 0,Value.slice none 0 0,Value.slice none 0 0,Value.slice none 0 0] 163);have ca:=WH w (Obj.cells #[k0,k1,k2,k3,k4] 163) (Obj.cells #[encStr q,Value.bool true,x2,x3,x4,x5,x6,x7,x8] 100) (Obj.cells #[v] 36) (Obj.cells #[Value.slice none 0 0,Value.slice none 0 0,Value.slice none 0 0,Value.slice none 0 0,Value.slice none 0 0] 163);generalize ((((w.alloc (Obj.cells #[k0,k1,k2,k3,k4] 163)).alloc (Obj.cells #[encStr q,Value.bool true,x2,x3,x4,x5,x6,x7,x8] 100)).alloc (Obj.cells #[v] 36)).alloc (Obj.cells #[Value.slice none 0 0,Value.slice none 0 0,Value.slice none 0 0,Value.slice none 0 0,Value.slice none 0 0] 163))=w4 at k ca ⊢;obtain⟨zz,y0,y1,y2,y3⟩:=k;have ka:D8 w4.heap.size w4 t v:=(hT.below ca).more O;have d:Below w4.heap.size w4 (((w4.alloc (Obj.cells #[Value.slice none 0 0] 23)).alloc (Obj.cells #[v] 36)).alloc (Obj.cells #[encStr q] 9)):=(((Below.refl _ w4).alloc (Qh _) _).alloc U _).alloc Xb _;have hz:(((w4.alloc (Obj.cells #[Value.slice none 0 0] 23)).alloc (Obj.cells #[v] 36)).alloc (Obj.cells #[encStr q] 9)).heap.size=w4.heap.size+3:=U
 have b1:Boxed (((w4.alloc (Obj.cells #[Value.slice none 0 0] 23)).alloc (Obj.cells #[v] 36)).alloc (Obj.cells #[encStr q] 9)) w4.heap.size 23 (.slice none 0 0):=((Boxed.new w4 23 (.slice none 0 0)).alloc (Obj.cells #[v] 36)).alloc (Obj.cells #[encStr q] 9);have b2:Boxed (((w4.alloc (Obj.cells #[Value.slice none 0 0] 23)).alloc (Obj.cells #[v] 36)).alloc (Obj.cells #[encStr q] 9)) (w4.heap.size+1) 36 v:=by
  have:=(Boxed.new (w4.alloc (Obj.cells #[Value.slice none 0 0] 23)) 36 v).alloc (Obj.cells #[encStr q] 9)
  rwa [World.size_alloc]at this
 have b3:Boxed (((w4.alloc (Obj.cells #[Value.slice none 0 0] 23)).alloc (Obj.cells #[v] 36)).alloc (Obj.cells #[encStr q] 9)) (w4.heap.size+1+1) 9 (encStr q):=by
  have:=Boxed.new ((w4.alloc (Obj.cells #[Value.slice none 0 0] 23)).alloc (Obj.cells #[v] 36)) 9 (encStr q)
  rwa [World.size_alloc,World.size_alloc]at this
 generalize (((w4.alloc (Obj.cells #[Value.slice none 0 0] 23)).alloc (Obj.cells #[v] 36)).alloc (Obj.cells #[encStr q] 9))=W0 at d hz b1 b2 b3 ⊢;have en:w.heap.size+1+1+1+1=w4.heap.size:=O
 rw[en];have ja:(Bu t q).length<=400000:=Qd (qW t q) (by rw[Tr.cnt_lst];exact hc);refine wpIn_rangeFunc_ownF rfl V (gf:=48) (lb:=#[.pointer (some ⟨w4.heap.size+1,0,none⟩),.pointer (some ⟨w4.heap.size+1+1,0,none⟩)]) rfl trivial (enters_of func48 Z rfl)
  (LK 2 V (w4.heap.size+1) (w4.heap.size+1+1) w4.heap.size t q v hc W0 b2 b3 (ka.below d) O) kF.trans (sO O O O) (Below.refl _ _) (λ_=>rfl)
  (λ(pre:List (O1 t q)) W=>(∃u,Boxed W w4.heap.size 23 u∧W.ownsRow (w4.heap.size+3) 9 1 u pre.length ((pre.map (·.1.1)).map encStr)∧(u= .slice none 0 0↔pre=[]))∧Below w4.heap.size w4 W∧w4.heap.size+3<=W.heap.size)
  (λ_ _ _=>False)
  (OwnFrom.and (Own.from (holdsRow_own (w4.heap.size+3) w4.heap.size 23 9 1 (λ(pre:List (O1 t q))=>pre.length) (λ(pre:List (O1 t q))=>(pre.map (·.1.1)).map encStr) (λ(pre:List (O1 t q)) u=>u= .slice none 0 0↔pre=[])) _) (OwnFrom.and (ownFrom_below (Qh _) O) (Own.from (Nh _) _)))
  (λ_ _ _ _ _ hs _ _=>hs)
  ⟨⟨_,b1,World.ownsRow_nil _ _ _ _,U⟩,d,O⟩
  (λx=>{tmps:=Zp (Value.agg #[k0,k1,k2,k3,k4]::Value.agg #[encStr q,Value.bool true,x2,x3,x4,x5,x6,x7,x8]::Value.agg #[v]::Value.pointer (some {block:=w.heap.size,off:=0})::Value.pointer (some {block:=w.heap.size+1,off:=0})::Value.pointer (some {block:=w.heap.size+1+1,off:=0})::Value.pointer (some {block:=w.heap.size+1+1+1,off:=0})::undef::undef::Value.pointer (some {block:=w4.heap.size,off:=0})::encStr x.1.1::Value.pointer (some {block:=w.heap.size+1,off:=1})::Value.bool true::Value.bool false::undef::undef::undef::undef::undef::undef::undef::undef::undef::undef::undef::undef::undef::Value.agg #[v]::Value.pointer (some {block:=w.heap.size+1,off:=0})::encStr q::Value.func (Fn.func 48) #[] #[Value.pointer (some {block:=w4.heap.size+1,off:=0}),Value.pointer (some {block:=w4.heap.size+1+1,off:=0})]::encStr x.1.1::encStr x.1.2::undef::undef::undef::undef::undef::undef::undef::undef::undef::[]),defers:=[]}) ?assign ?body ?done ?stop
 case assign=>
  intro l x W K hK;clear zz en hz
  gi_wp2
  exact hK
 case body=>
  rintro l pre x W ⟨⟨u,hv,ba,na⟩,hB,za⟩ ea;have ha:=hv.cell;clear zz en hz
  gi_wp2_with (gi_at_builtin;refine wpListIn_append_own _ rfl _ _ 23 rfl (w4.heap.size+3) 9 i0 (.string ByteArray.empty) 1 16 underlying23 hi oa la pa rfl V _ _ _ rfl (ba.alloc _) ⟨W.heap.size,0,none⟩ 1 1 [encStr x.1.1] rfl rfl (cell_one_new _ _ _) (λx hx=>Yi) Xq O Xb ?_;intro v' w1 da ia i;obtain⟨g',qa,rfl⟩:=ownsRow_succ da;obtain⟨h1,h2,h3,h4,h5,h6,h7⟩:=aCR (n:=w4.heap.size) (N:=w4.heap.size+3) (Bt:=w4.heap.size+1) (Bq:=w4.heap.size+1+1) (B:=w4.heap.size) hB hv ba za O (Qh _) O O O O da ia;have r:=h7.cell;have ma:=h7.frozen)
  exact⟨h1,h2,⟨_,h3,by simpa using h4,U⟩,h5,h6⟩
 case done=>
  rintro D ys W hD bb ⟨⟨u,hv,ba,na⟩,hB,za⟩ hK;have ha:=hv.cell;have q0:=(hB.block _ O).trans y0;have q1:=(hB.block _ O).trans y1;have q3:=(hB.block _ O).trans y3;obtain⟨d0,d1,d2,d3,d4⟩:=aAD q0;have d5:W.cell? ⟨w.heap.size+1,0,none⟩=some (encStr q):=by simp[World.cell?,q1]
  have ZZ:Aside (w4.heap.size=w.heap.size+4∧W0.heap.size=w4.heap.size+3):=⟨zz,hz⟩;clear zz en hz;have y:ys.map (·.1.1)=(Bu t q).map (·.1):=by have:=congrArg (Z8 (·.1)) bb;rwa [List.map_map]at this
  have b:ys=[]↔(Bu t q).map (·.1)=[]:=by rw[←y,Zv]
  have s:ys.length=((Bu t q).map (·.1)).length:=by rw[←y,Qs]
  rw[y,s]at ba;rw[b]at na;have z:Below w.heap.size w W:=ca.trans (hB.mono ca.size);have j:=rV ba (show w.heap.size+7<=w4.heap.size+3 by have:=ZZ.out;omega);clear y b s
  gi_wp2_with (refine⟨trivial,?_⟩;gi_at_call 156;refine(callsIn_wide.2 (f W u z X6 j na)).mono ?_;rintro e w1 ⟨u0,u1,u2,u3,u4,rfl,fa,hq⟩;have q4:=(fa.block _ X6).trans q3;obtain⟨c0,c1,c2,c3,c4⟩:=aAD q4;have f0:=Tp q4 0;have f1:=Tp q4 1;have f2:=Tp q4 2;have f3:=Tp q4 3;have f4:=Tp q4 4)
  obtain⟨p5,ps,pk⟩:=T7 (Ig u0) (Ig u1) (Ig u2) (Ig u3) (Ig u4) q4;have m:=(Qm.1 hK).1;obtain⟨zz,hz⟩:=ZZ.out;have g:D≠w.heap.size+1+1+1:=O
  have a:=(pk D g).trans ((fa.block _ m).trans hK);have ta:=fa.size;have ra:Below w.heap.size w w1:=z.trans (fa.mono z.size);have aa:=((((ra.setCell (p:=⟨w.heap.size+1+1+1,0,none⟩) Xb (Ig u0)).setCell (p:=⟨w.heap.size+1+1+1,1,none⟩) Xb (Ig u1)).setCell (p:=⟨w.heap.size+1+1+1,2,none⟩) Xb (Ig u2)).setCell (p:=⟨w.heap.size+1+1+1,3,none⟩) Xb (Ig u3)).setCell (p:=⟨w.heap.size+1+1+1,4,none⟩) Xb (Ig u4);have ga:∀o,((((((w1.setCell ⟨w.heap.size+1+1+1,0,none⟩ (Ig u0)).setCell ⟨w.heap.size+1+1+1,1,none⟩ (Ig u1)).setCell ⟨w.heap.size+1+1+1,2,none⟩ (Ig u2)).setCell ⟨w.heap.size+1+1+1,3,none⟩ (Ig u3)).setCell ⟨w.heap.size+1+1+1,4,none⟩ (Ig u4)).putObj D o).heap[w.heap.size+1+1+1]?=_:=λo=>(World.putObj_heap_other g.symm).trans p5
  refine⟨U,.inl ⟨_,_,rfl,run_takeDeferred a,?_⟩⟩;obtain⟨s0,s1,s2,s3,s4⟩:=aAD (ga (.deferred none));refine⟨.agg #[Ig u0,Ig u1,Ig u2,Ig u3,Ig u4],by simp[results,results88,go_sem,s0,s1,s2,s3,s4],_,W,w1,w.heap.size+1+1+1,rfl,z,fa,hq,rfl,aa.trans (belowK_b (w:=w) (Qh _) _ D _ _ O a rfl rfl),?_,λp hp=>?_⟩
  ·rw[World.putObj_size];exact Zo ps.symm
  ·rcases Nat.decEq p.block D with h|h
   ·simp only[World.cell?,World.putObj_heap_other h];rw[pk _ hp]
   ·simp only[World.cell?,h,World.putObj_heap_same (Qm.1 a).1,(fa.block _ m).trans hK]
 case stop=>
  rintro D c pre W _ _ h _;exact h.elim
def Un{P:Program}{f:FuncId}{F:List D->Option D}(na:(Ac F).ok P f){ds:List D}{r:D}(hF:F ds=some r)(n:ds.all D.calm=true)(z:ds.map D.un=ds)(a:r.calm=true){vs:List Value}{w:World}{G:Nat->Nat}
  (hl:vs.length=ds.length) (c:∀(j:Nat) d v,ds[j]?=some d->vs[j]?=some v->Rep w (Gh.base G) d v) (y:∀b,w.heap.size<=b->G b=0):
  Calls P f vs.toArray w λe w'=>∃v G',e= .returned v∧Below w.heap.size w w'∧(∀b,w'.heap.size<=b->G' b=0)∧(∀b,b<w.heap.size->G' b=G b)∧Rep w' (Gh.base G') r v:=by
 have g:HQ P w.heap.size w (λ_ _=>none) w (Gh.base G):=
  ⟨Below.refl _ _,Qh _,y,λ_ _=>rfl,λi b h=>XD,λi m b h=>XD,λi o d h=>Xd,λi e h=>Xd,λi m e e' b x x' h=>Xd,λi s p h=>Xd,λi m s p s' p' b x x' h=>Xd⟩
 refine(na.run (fr:=[0]) (ds:=ds) (r:=r) (u:=[]) g (λi _=>⟨λ_=>rfl,rfl,rfl⟩) hl c ?_).mono ?_
 ·grind [Ac]
 ·rintro e w' ⟨v,t,rfl,k⟩;refine⟨v,t.G,rfl,k.inv.below,k.inv.gz,λb q=>?_,k.rep.calm_to a (λ_ _=>rfl) (λ_=>Qh _)⟩;rw[k.inv.old b q,k.ext.G0];rfl
def RC{w:World}{g:Gh}{t:Tr}{u:Value}(h:Rep w g (.agg [HV t]) u):∃v,u= .agg #[v]∧Rep w g (HV t) v:=by
 cases h with
 |agg ds vs hl q y=>
  match vs,hl with
  |[v],_=>exact⟨v,rfl,y 0 _ v rfl rfl⟩
def MC(t:Tr):List D:=[.agg [HV t]]
def Sb(x y)(h:MC x=MC y):x=y:=by
 simp only[MC,QO,D.agg.injEq,and_true]at h;exact FR h
structure TrS (t:Tr):Prop where
 cnt:t.cnt<=400000
 key:∀x∈t.lst,x.1.length<=100000∧x.2.length<=100000
def U9:List D->Option D:=FX MC TrS λt=> .int .i64 ((Tr.weighL t.lst:Nat):Int)
def LI{t:Tr}(h:TrS t):U9 [.agg [HV t]]=some (.int .i64 ((Tr.weighL t.lst:Nat):Int)):=Ca (mk:=MC) Sb h
def VS:Kq U9 35:=by
 refine GQ ⟨_,func35,Z,Z⟩ λds r z vs w G hl c j=>⟨?_,?_⟩
 ·obtain⟨p,_,_,rfl⟩:=CV z;rfl
 ·obtain⟨t,m,rfl,rfl⟩:=CV z
  match vs,hl with
  |[v0],_=>
   obtain⟨v,rfl,i⟩:=RC (c 0 _ v0 rfl rfl);refine(aTK w v t ⟨G,i,j⟩ m.cnt m.key).mono ?_;rintro e w' ⟨rfl,f⟩;exact⟨_,G,rfl,f,λb h=>j b (Qd f.size h),λ_ _=>rfl,.int _ _⟩
def R9(p:Kn×Bs×Bool×List D×Tr):List D:=[.agg (Im p.1),.agg (.str p.2.1:: .bool p.2.2.1::p.2.2.2.1),.agg [HV p.2.2.2.2]]
def mO(x y)(h:R9 x=R9 y):x=y:=by
 obtain⟨k,q,li,r,t⟩:=x;obtain⟨z,m,d,a,c⟩:=y;simp only[R9,QO,D.agg.injEq,D.str.injEq,D.bool.injEq,and_true]at h;obtain⟨u,⟨f,o,j⟩,p⟩:=h;rw[sN u,f,o,j,FR p]
structure aYb (p:Kn×Bs×Bool×List D×Tr):Prop where
 es:p.1.es.length<=1000
 ls:p.1.ls.length<=1000
 r:p.2.2.2.1.length=7
 t:TrS p.2.2.2.2
 und:((Bu p.2.2.2.2 p.2.1)).length<=100000
def U8:List D->Option D:=FX R9 aYb λp=> .agg (Im (A2 p.1 p.2.1 p.2.2.1 (Ft p.2.2.2.2 p.2.1)))
def aHk{k:Kn}{q:Bs}{li:Bool}{r:List D}{t:Tr}(h:aYb (k,q,li,r,t)):U8 [.agg (Im k),.agg (.str q:: .bool li::r),.agg [HV t]]=some (.agg (Im (A2 k q li (Ft t q)))):=Ca (mk:=R9) (a:=(k,q,li,r,t)) mO h
def aC8(k:Kn):(D.agg (Im k)).calm=true:=rfl
def mX{w:World}{g:Gh}{k:Kn}{u:Value}(h:Rep w g (.agg (Im k)) u):∃i e d n c,u= .agg #[Ig i,Ig e,Ig d,Ig n,Ig c]:=by
 cases h with
 |agg ds vs hl q y=>
  match vs,hl with
  |[v0,v1,v2,v3,v4],_=>
   obtain⟨a,b,rfl,_⟩:=(y 0 _ v0 rfl rfl).len_slice;obtain⟨a1,c1,rfl,_⟩:=(y 1 _ v1 rfl rfl).len_slice;obtain⟨f,c2,rfl,_⟩:=(y 2 _ v2 rfl rfl).len_slice;obtain⟨o,t,rfl,_⟩:=(y 3 _ v3 rfl rfl).len_slice;obtain⟨j,p,rfl,_⟩:=(y 4 _ v4 rfl rfl).len_slice;exact⟨(a,_,b),(a1,_,c1),(f,_,c2),(o,_,t),(j,_,p),rfl⟩
def aQG{w:World}{g:Gh}{q:Bs}{li:Bool}{r:List D}{u:Value}(h:Rep w g (.agg (.str q:: .bool li::r)) u)(i:r.length=7):∃p s a c j e f,u= .agg #[encStr q,.bool li,p,s,a,c,j,e,f]:=by
 cases h with
 |agg ds vs hl k y=>
  match r,i,vs,hl,y with
  |[r2,r3,r4,r5,r6,r7,r8],_,[v0,v1,v2,v3,v4,v5,v6,v7,v8],_,y=>
   have b:=(y 0 _ v0 rfl rfl).str_inv;have m:=(y 1 _ v1 rfl rfl).bool_inv;subst b m;exact⟨_,_,_,_,_,_,_,rfl⟩
def aTi(w:World)(G:Nat->Nat)(k:Kn)(s:World)(u:Value):Prop:=∃i:Nat->Nat,(∀b,s.heap.size<=b->i b=0)∧(∀b,b<w.heap.size->i b=G b)∧i (w.heap.size+3)=0∧Rep s (Gh.base i) (.agg (Im k)) u
def sK{w:World}{G:Nat->Nat}{k:Kn}{e:Ending}{w':World}(h:∃u c s B,e= .returned u∧Below w.heap.size w c∧Below c.heap.size c s∧aTi w G k s u∧B=w.heap.size+3∧Below w.heap.size w w'∧s.heap.size<=w'.heap.size∧∀p:Addr,p.block≠B->w'.cell? p=s.cell? p):
  ∃v G',e= .returned v∧Below w.heap.size w w'∧(∀b,w'.heap.size<=b->G' b=0)∧(∀b,b<w.heap.size->G' b=G b)∧Rep w' (Gh.base G') (.agg (Im k)) v:=by
 obtain⟨u,c,s,B,rfl,t,q,⟨i,z,o,r,x⟩,rfl,f,j,d⟩:=h;refine⟨u,i,rfl,f,λb h=>z b O,o,x.calm_to (aC8 k) (λp g=>d p λe=>?_) (λ_=>Qh _)⟩;rw[e]at g;simp only[Gh.base,r]at g;omega
def aJw(k:Kn)(q:Bs)(t:Tr):A2 k q false (Ft t q)={k with es:=k.es++[(q,(t.get q).getD [],(t.get q).isSome)]}:=by
 simp[A2,Ft]
def aJu(k:Kn)(q:Bs)(t:Tr):A2 k q true (Ft t q)={k with ls:=k.ls++[(q,(Bu t q).isEmpty,(Bu t q).map (·.1))]}:=by
 simp[A2,Ft]
def aQD:Kq U8 88:=by
 refine GQ ⟨_,func88,Z,Z⟩ λds r hF vs w G hl da y=>⟨?_,?_⟩
 ·obtain⟨p,_,_,rfl⟩:=CV hF;rfl
 ·obtain⟨⟨k,q,li,rr,t⟩,⟨c,s,i,ht,z⟩,rfl,rfl⟩:=CV hF;simp only at c s i ht z
  match vs,hl with
  |[v0,v1,v2],_=>
   have la:=da 0 _ v0 rfl rfl;obtain⟨u0,u1,u2,u3,u4,rfl⟩:=mX la;obtain⟨x2,x3,x4,x5,x6,x7,x8,rfl⟩:=aQG (da 1 _ v1 rfl rfl) i;obtain⟨v,rfl,hr⟩:=RC (da 2 _ v2 rfl rfl);have hT:D8 w.heap.size w t v:=⟨G,hr,y⟩;cases li with
   |false=>
    refine(aP1 w (Ig u0) (Ig u1) (Ig u2) (Ig u3) (Ig u4) q x2 x3 x4 x5 x6 x7 x8 v ((t.get q).getD []) (t.get q).isSome (λ_=>aTi w G (A2 k q false (Ft t q))) (λwx x=>aPk (hT.below x) x.size q) (λwx x ra=>?_)).mono λe w' h=>sK h
    refine(Un (vs:=[.agg #[Ig u0,Ig u1,Ig u2,Ig u3,Ig u4],encStr q,encStr ((t.get q).getD []),.bool (t.get q).isSome]) (G:=G) aY8 (aTh k q ((t.get q).getD []) (t.get q).isSome c) rfl rfl rfl rfl (λj d u o hu=>?_) (λb h=>y b (Qd x.size h))).mono ?_
    ·match j,o,hu with
     |0,o,hu=>cases o;cases hu;exact GG la rfl y x (λ_ _=>Qh _)
     |1,o,hu=>cases o;cases hu;exact .str _
     |2,o,hu=>cases o;cases hu;exact .str _
     |3,o,hu=>cases o;cases hu;exact .bool _
    ·rintro e w1 ⟨u,G1,rfl,n,hz,ho,hR⟩;obtain⟨y0,y1,y2,y3,y4,rfl⟩:=mX hR;refine⟨y0,y1,y2,y3,y4,rfl,n,G1,hz,λb h=>ho b (ZG h x.size),?_,by rw[aJw];exact hR⟩;rw[ho _ O,y _ O]
   |true=>
    refine(aP0 w (Ig u0) (Ig u1) (Ig u2) (Ig u3) (Ig u4) q x2 x3 x4 x5 x6 x7 x8 v t (λ_=>aTi w G (A2 k q true (Ft t q))) hT ht.cnt (λwx vs x ra ka na=>?_)).mono λe w' h=>sK h
    have ia:∃Gx:Nat->Nat,(∀b,wx.heap.size<=b->Gx b=0)∧(∀b,b<w.heap.size->Gx b=G b)∧Gx (w.heap.size+3)=0∧Rep wx (Gh.base Gx) (.slice (Bu t q).isEmpty [] (strsD ((Bu t q).map (·.1)))) vs:=by
     rcases ka.2 with ⟨rfl,_⟩|⟨g,cap,cur,rfl,f,a,m⟩
     ·have e:=na.1 rfl;have e2:Bu t q=[]:=Zv.1 e;rw[e2];exact⟨G,λb h=>y b (Qd x.size h),λ_ _=>rfl,y _ O,.nils _⟩
     ·have ga:Bu t q≠[]:=λe=>by
       have:=na.2 (by rw[e];rfl);cases this
      have qa:=(Qm.1 a).1;have e3:(Bu t q).isEmpty=false:=by cases h:Bu t q with|nil=>exact absurd h ga|cons=>rfl
      refine⟨λb=>if b=g then((Bu t q).map (·.1)).length else G b,λb h=>?_,λb h=>if_neg O,?_,?_⟩
      ·show(if b=g then _ else _)=0;rw[if_neg O];exact y b (Qd x.size h)
      ·show(if w.heap.size+3=g then _ else _)=0;rw[if_neg O];exact y _ O
      ·rw[e3];exact Ng ka (by simp[Gh.base])
    obtain⟨Gx,gz,go,g3,l⟩:=ia;refine(Un (vs:=[.agg #[Ig u0,Ig u1,Ig u2,Ig u3,Ig u4],encStr q,vs]) (G:=Gx) aY7 (aTg k q (Bu t q).isEmpty ((Bu t q).map (·.1)) s (by rw[Qs];exact z) (λh=>by rw[List.isEmpty_iff.1 h];rfl)) rfl rfl rfl rfl (λj d u o hu=>?_) gz).mono ?_
    ·match j,o,hu with
     |0,o,hu=>cases o;cases hu;exact GG la rfl y x (λb h=>Zo (go b h).symm)
     |1,o,hu=>cases o;cases hu;exact .str _
     |2,o,hu=>cases o;cases hu;exact l
    ·rintro e w1 ⟨u,G1,rfl,n,hz,ho,hR⟩;obtain⟨y0,y1,y2,y3,y4,rfl⟩:=mX hR;exact⟨y0,y1,y2,y3,y4,rfl,n,G1,hz,λb h=>(ho b (ZG h x.size)).trans (go b h),(ho _ O).trans g3,by rw[aJu];exact hR⟩
attribute [local go_sem] Oper.semAt_some
open Go.Shelf Go.Sort
def uS{n:Nat}{c:World}{t:Tr}{v:Value}(h:D8 n c t v)(w:n<=c.heap.size):Calls QD 102 #[.agg #[v]] c λe w'=>e= .returned (.int .i64 (t.cnt:Nat))∧Below c.heap.size c w':=by
 have q:=h.one;obtain⟨G,y,o⟩:=h;refine(EE (vs:=[.agg #[v]]) (G:=G) aRf (aGH t) Xj Xj rfl (λj d u z m=>?_) (λb f=>o b O)).mono ?_
 ·match j,z,m with
  |0,z,m=>cases z;cases m;exact OZ y q
 ·rintro e w' ⟨u,r,rfl,f,x⟩;exact⟨X2,f⟩
def aPi{n:Nat}{c:World}{t:Tr}{v:Value}(h:D8 n c t v)(w:n<=c.heap.size):Calls QD 103 #[.agg #[v]] c λe w'=>e= .returned (.int .i64 (t.wgt:Nat))∧Below c.heap.size c w':=by
 have q:=h.one;obtain⟨G,y,o⟩:=h;refine(EE (vs:=[.agg #[v]]) (G:=G) aRe (aGG t) Xj Xj rfl (λj d u z m=>?_) (λb f=>o b O)).mono ?_
 ·match j,z,m with
  |0,z,m=>cases z;cases m;exact OZ y q
 ·rintro e w' ⟨u,r,rfl,f,x⟩;exact⟨X2,f⟩
def aFM(w:World)(c e b:Obj):(((w.alloc c).alloc e).alloc b).heap.size=w.heap.size+3∧(((w.alloc c).alloc e).alloc b).heap[w.heap.size]?=some c∧(((w.alloc c).alloc e).alloc b).heap[w.heap.size+1]?=some e∧(((w.alloc c).alloc e).alloc b).heap[w.heap.size+1+1]?=some b:=by
 have u:∀(x:World)(o:Obj)(k:Nat),k<x.heap.size->(x.alloc o).heap[k]?=x.heap[k]?:=λx o k h=>Below.heap_alloc _ _ _ h
 have j:∀(x:World)(o:Obj),(x.alloc o).heap.size=x.heap.size+1:=λx o=>World.size_alloc x o
 have v:∀(x:World)(o:Obj),(x.alloc o).heap[x.heap.size]?=some o:=λx o=>World.alloc_heap_new x o
 refine⟨by simp only[j],?_,?_,?_⟩
 ·rw[u _ _ _ Xt,u _ _ _ Xt,v]
 ·rw[u _ _ _ Xt,←j w c,v]
 ·rw[←j w c,←j _ e,v]
def aFG(w:World)(c e b:Obj):Below w.heap.size w (((w.alloc c).alloc e).alloc b):=(((Below.refl _ w).alloc (Qh _) _).alloc U _).alloc Xb _
structure HS (w:World) (a b:Tr) (va vb:Value) (wx:World):Prop where
 bl:Below w.heap.size w wx
 sz:w.heap.size+3<=wx.heap.size
 y0:wx.heap[w.heap.size]?=some (.cells #[va] 36 (0,0))
 y1:wx.heap[w.heap.size+1]?=some (.cells #[vb] 36 (0,0))
 y2:wx.heap[w.heap.size+1+1]?=some (.cells #[.bool false] 4 (0,0))
 ta:D8 w.heap.size wx a va
 tb:D8 w.heap.size wx b vb
def HS.le{w c:World}{a b:Tr}{i q:Value}(h:HS w a b i q c):w.heap.size<=c.heap.size:=by have:=h.sz;omega
def HS.later3{w c e:World}{a b:Tr}{i q:Value}(h:HS w a b i q c)(f:Below (w.heap.size+3) c e):HS w a b i q e:=by
 have:=h.sz;have n:=f.mono (show w.heap.size<=w.heap.size+3 by omega);exact⟨h.bl.trans n,Qd h.sz f.size,(f.block _ O).trans h.y0,(f.block _ O).trans h.y1,(f.block _ O).trans h.y2,h.ta.below n,h.tb.below n⟩
def aRT{α:Type}{w:World}{a b:Tr}{x q:Value}{B:Nat}(d:w.heap.size+3<=B):OwnFrom B (λ(_:List α) W=>HS w a b x q W):=λs A k row j z i=>
 j.later3 ((Below.refl _ A).grown z j.sz (λr e=>by have:=(i r e).1;omega))
def HS.later{w c e:World}{a b:Tr}{i q:Value}(h:HS w a b i q c)(f:Below c.heap.size c e):HS w a b i q e:=by
 have:=h.sz;have n:=f.mono h.le;exact⟨h.bl.trans n,Qd h.sz f.size,(f.block _ O).trans h.y0,(f.block _ O).trans h.y1,(f.block _ O).trans h.y2,h.ta.below n,h.tb.below n⟩
def HS.drew{w c:World}{a b:Tr}{i q:Value}(h:HS w a b i q c):HS w a b i q c.drew:=h.later ⟨rfl,rfl,rfl,Qh _,λ_ _=>rfl⟩
def HS.cells{w c:World}{a b:Tr}{i q:Value}(h:HS w a b i q c):c.cell? ⟨w.heap.size,0,none⟩=some i∧c.cell? ⟨w.heap.size+1,0,none⟩=some q∧c.cell? ⟨w.heap.size+1+1,0,none⟩=some (.bool false)∧c.frozen? ⟨w.heap.size+1+1,0,none⟩=false:=by
 simp[World.cell?,World.frozen?,h.y0,h.y1,h.y2]
def aP3(w:World)(i q:Value)(a b:Tr)(k:D8 w.heap.size w a i)(x:D8 w.heap.size w b q)(p:a.cnt≠b.cnt):
  Calls QD 47 #[.agg #[i],.agg #[q]] w λe w'=>e= .returned (.bool false)∧Below w.heap.size w w':=by
 refine(callsIn_wide (n:=3)).1 ?_;refine callsIn_of_wp_marks func47 rfl trivial ?_ rfl;simp only[ntmps47,QZ,Qk,Qz,Qr,QQ,QU,QV,Q_,QW,Qf,Qe]
 gi_wp2
 obtain⟨y,y0,y1,y2⟩:=aFM w (Obj.cells #[i] 36) (Obj.cells #[q] 36) (Obj.cells #[.bool false] 4);have u:=aFG w (Obj.cells #[i] 36) (Obj.cells #[q] 36) (Obj.cells #[.bool false] 4);generalize (((w.alloc (Obj.cells #[i] 36)).alloc (Obj.cells #[q] 36)).alloc (Obj.cells #[.bool false] 4))=m at y y0 y1 y2 u ⊢;have g:HS w a b i q m:=⟨u,O,y0,y1,y2,k.below u,x.below u⟩;clear y y0 y1 y2 u;obtain⟨r,s,k2,k3⟩:=g.cells;have H:=g.drew;have z:1<=3-1:=V
 have f:Tryz.prog.follows .mixedOrders=true:=Z
 have c:((a.cnt:Int)!=(b.cnt:Int))=true:=by simp only[bne_iff_ne,ne_eq];omega
 refine wpIn_mono (Q:=λj A W=>match j with| .normal=>A={tmps:=Zp (Value.agg #[i]::Value.agg #[q]::Value.pointer (some ⟨w.heap.size,0,none⟩)::Value.pointer (some ⟨w.heap.size+1,0,none⟩)::Value.pointer (some ⟨w.heap.size+1+1,0,none⟩)::undef::undef::undef::undef::Value.agg #[i]::Value.int .i64 (a.cnt:Nat)::Value.agg #[q]::Value.int .i64 (b.cnt:Nat)::Value.bool true::Value.bool true::undef::undef::undef::undef::undef::Value.bool true::undef::undef::undef::undef::undef::undef::undef::undef::undef::undef::undef::undef::undef::undef::undef::undef::undef::[]),defers:=[]}∧HS w a b i q W|_=>False) ?_ ?_
 ·gi_region_with_o (refine⟨trivial,?_⟩;try (gi_at_call 102;(first|refine(callsIn_wide.2 (uS (v:=i) (t:=a) H.ta H.le)).mono ?_ |refine(callsIn_wide.2 (uS (v:=q) (t:=b) H.tb H.le)).mono ?_);rintro e wy ⟨rfl,o⟩;replace H:=H.later o;obtain⟨j0,j1,j2,j3⟩:=H.cells))
  all_goals exact⟨rfl,H⟩
 ·rintro j A W d;cases j with
  |normal=>
   obtain⟨rfl,HW⟩:=d;have H2:=HW.cells;clear r s k2 k3 c;obtain⟨r,s,k2,k3⟩:=H2
   gi_wp2
   exact⟨.bool false,by simp[results,results47,go_sem,heap_setCell_same _ _ 0 _ _ (Value.bool false) HW.y2,World.cell?],rfl,HW.bl.setCell Xb _⟩
  |_=>exact d.elim
def aP2(w:World)(va vb:Value)(t:Tr)(hA:D8 w.heap.size w t va)(hB:D8 w.heap.size w t vb)(q:Tr.Ord t.lst)(s:t.cnt<=400000):
  Calls QD 47 #[.agg #[va],.agg #[vb]] w λe w'=>e= .returned (.bool true)∧Below w.heap.size w w':=by
 refine(callsIn_wide (n:=3)).1 ?_;refine callsIn_of_wp_marks func47 rfl trivial ?_ rfl;simp only[ntmps47,QZ,Qk,Qz,Qr,QQ,QU,QV,Q_,QW,Qf,Qe]
 gi_wp2
 obtain⟨zz,y0,y1,y2⟩:=aFM w (Obj.cells #[va] 36) (Obj.cells #[vb] 36) (Obj.cells #[.bool false] 4);have u:=aFG w (Obj.cells #[va] 36) (Obj.cells #[vb] 36) (Obj.cells #[.bool false] 4);generalize (((w.alloc (Obj.cells #[va] 36)).alloc (Obj.cells #[vb] 36)).alloc (Obj.cells #[.bool false] 4))=w3 at zz y0 y1 y2 u ⊢;have H0:HS w t t va vb w3:=⟨u,O,y0,y1,y2,hA.below u,hB.below u⟩;clear zz y0 y1 y2 u;obtain⟨k0,k1,k2,k3⟩:=H0.cells;have H:=H0.drew;have z:1<=3-1:=V
 have f:Tryz.prog.follows .mixedOrders=true:=Z
 refine wpIn_mono (Q:=λex A W=>match ex with| .normal=>A={tmps:=Zp (Value.agg #[va]::Value.agg #[vb]::Value.pointer (some ⟨w.heap.size,0,none⟩)::Value.pointer (some ⟨w.heap.size+1,0,none⟩)::Value.pointer (some ⟨w.heap.size+1+1,0,none⟩)::undef::undef::undef::undef::Value.agg #[va]::Value.int .i64 (t.cnt:Nat)::Value.agg #[vb]::Value.int .i64 (t.cnt:Nat)::Value.bool false::Value.bool false::Value.agg #[va]::Value.int .i64 (t.wgt:Nat)::Value.agg #[vb]::Value.int .i64 (t.wgt:Nat)::Value.bool false::Value.bool false::undef::undef::undef::undef::undef::undef::undef::undef::undef::undef::undef::undef::undef::undef::undef::undef::undef::[]),defers:=[]}∧HS w t t va vb W|_=>False) ?_ ?_
 ·gi_region_with_o (refine⟨trivial,?_⟩;(first
   |(gi_at_call 102;(first|refine(callsIn_wide.2 (uS (v:=va) (t:=t) H.ta H.le)).mono ?_ |refine(callsIn_wide.2 (uS (v:=vb) (t:=t) H.tb H.le)).mono ?_);rintro e wy ⟨rfl,i⟩;replace H:=H.later i;obtain⟨j0,j1,j2,j3⟩:=H.cells)
   |(gi_at_call 103;(first|refine(callsIn_wide.2 (aPi (v:=va) (t:=t) H.ta H.le)).mono ?_ |refine(callsIn_wide.2 (aPi (v:=vb) (t:=t) H.tb H.le)).mono ?_);rintro e wy ⟨rfl,i⟩;replace H:=H.later i;obtain⟨j0,j1,j2,j3⟩:=H.cells)))
  all_goals exact⟨rfl,H⟩
 ·rintro ex A W hQ;cases ex with
  |normal=>
   obtain⟨rfl,HW⟩:=hQ;have H2:=HW.cells;clear k0 k1 k2 k3 H0 H;obtain⟨k0,k1,k2,k3⟩:=H2
   gi_wp2_with (refine⟨trivial,?_⟩;gi_at_call 21;refine(callsIn_wide.2 (uT _ va [])).mono ?_;rintro e w' ⟨rfl,rfl⟩)
   have r:Below W.heap.size W ((W.alloc (Obj.cells #[va] 36)).alloc (Obj.cells #[encStr []] 9)):=((Below.refl _ W).alloc (Qh _) _).alloc U _;have H0:=HW.later r;have hz:((W.alloc (Obj.cells #[va] 36)).alloc (Obj.cells #[encStr []] 9)).heap.size=W.heap.size+2:=U
   have b2:Boxed ((W.alloc (Obj.cells #[va] 36)).alloc (Obj.cells #[encStr []] 9)) W.heap.size 36 va:=(Boxed.new W 36 va).alloc (Obj.cells #[encStr []] 9);have b3:Boxed ((W.alloc (Obj.cells #[va] 36)).alloc (Obj.cells #[encStr []] 9)) (W.heap.size+1) 9 (encStr []):=by
    have:=Boxed.new (W.alloc (Obj.cells #[va] 36)) 9 (encStr [])
    rwa [World.size_alloc]at this
   have za:=HW.sz;generalize ((W.alloc (Obj.cells #[va] 36)).alloc (Obj.cells #[encStr []] 9))=W0 at r H0 hz b2 b3 ⊢;clear k0 k1 k2 k3;refine wpIn_rangeFunc_ownF rfl V (gf:=48) (lb:=#[.pointer (some ⟨W.heap.size,0,none⟩),.pointer (some ⟨W.heap.size+1,0,none⟩)]) rfl trivial (enters_of func48 Z rfl)
    (LK 2 V W.heap.size (W.heap.size+1) w.heap.size t [] va s W0 b2 b3 H0.ta H0.le) kF.trans (sO O O O) (Below.refl _ _) (λ_=>rfl)
    (λ(pre:List (O1 t [])) Wx=>HS w t t va vb Wx∧W.heap.size+2<=Wx.heap.size)
    (λ_ _ _=>False)
    (OwnFrom.and (aRT O) (Own.from (Nh _) _))
    (λ_ _ _ _ _ j _ _=>j)
    ⟨H0,O⟩
    (λx=>{tmps:=Zp (Value.agg #[va]::Value.agg #[vb]::Value.pointer (some ⟨w.heap.size,0,none⟩)::Value.pointer (some ⟨w.heap.size+1,0,none⟩)::Value.pointer (some ⟨w.heap.size+1+1,0,none⟩)::encStr x.1.1::encStr x.1.2::undef::undef::Value.agg #[va]::Value.int .i64 (t.cnt:Nat)::Value.agg #[vb]::Value.int .i64 (t.cnt:Nat)::Value.bool false::Value.bool false::Value.agg #[va]::Value.int .i64 (t.wgt:Nat)::Value.agg #[vb]::Value.int .i64 (t.wgt:Nat)::Value.bool false::Value.bool false::Value.agg #[va]::Value.func (Fn.func 48) #[] #[Value.pointer (some ⟨W.heap.size,0,none⟩),Value.pointer (some ⟨W.heap.size+1,0,none⟩)]::encStr x.1.1::encStr x.1.2::undef::undef::undef::undef::undef::undef::undef::undef::undef::undef::undef::undef::undef::[]),defers:=[]}) ?assign ?body ?done ?stop
   case assign=>
    intro l x Wx K hK;clear hz
    gi_wp2
    exact hK
   case body=>
    rintro l pre ⟨x,m⟩ Wx ⟨HX,d⟩ k;clear hz;obtain⟨k0,k1,k2,k3⟩:=HX.cells;rw[FP]at m;have hg:t.get x.1=some x.2:=by rw[Tr.get_lst _ t q];exact Tr.getL_mem q m
    have b:=aPk HX.tb HX.le x.1;rw[hg]at b
    gi_wp2_with (refine⟨trivial,?_⟩;gi_at_call 27;refine(CallsIn.inRound l (callsIn_wide.2 b)).mono ?_;rintro e wy ⟨rfl,i⟩)
    exact⟨KeepsOthers.of_grownBy (Ci i (Qh _) none i.size) (λ_ _ e=>Xo),⟨i.mono HX.le,i.block _ O,i.block _ O⟩,HX.later i,by have:=i.size;omega⟩
   case done=>
    rintro D ys Wx hD bb ⟨HX,d⟩ hK;have Hz:Aside (W0.heap.size=W.heap.size+2):=hz;clear hz;obtain⟨k0,k1,k2,k3⟩:=HX.cells
    gi_wp2
    have hz:=Hz.out;have g:D≠w.heap.size+1+1:=O
    have y:=heap_setCell_same _ _ 0 _ _ (Value.bool true) HX.y2;have a:(Wx.setCell ⟨w.heap.size+1+1,0,none⟩ (Value.bool true)).heap[D]?=some (.deferred (some [])):=by rw[Below.heap_setCell _ _ _ _ g];exact hK
    refine⟨U,.inl ⟨_,_,rfl,run_takeDeferred a,?_⟩⟩;have ga:=(World.putObj_heap_other (o:= .deferred none) (w:=Wx.setCell ⟨w.heap.size+1+1,0,none⟩ (Value.bool true)) g.symm).trans y;exact⟨.bool true,by simp[results,results47,go_sem,ga,World.cell?],rfl,(HX.bl.setCell (p:=⟨w.heap.size+1+1,0,none⟩) Xb _).trans (belowK_b (w:=w) (Qh _) _ D _ _ O a rfl rfl)⟩
   case stop=>
    rintro D c pre W _ _ h _;exact h.elim
  |_=>exact hQ.elim
def OA(p:Tr×Tr):List D:=[.agg [HV p.1],.agg [HV p.2]]
def Sa(x y)(h:OA x=OA y):x=y:=by
 obtain⟨a,b⟩:=x;obtain⟨c,d⟩:=y;simp only[OA,QO,D.agg.injEq,and_true]at h;rw[FR h.1,FR h.2]
def wM:List D->Option D:=FX OA (λp=>(p.1=p.2∧Tr.Ord p.1.lst∧p.1.cnt<=400000)∨p.1.cnt≠p.2.cnt) λp=> .bool (decide (p.1.cnt=p.2.cnt))
def aLw{t:Tr}(v:Tr.Ord t.lst)(d:t.cnt<=400000):wM [.agg [HV t],.agg [HV t]]=some (.bool true):=by
 have:=Ca (mk:=OA) (ok:=λp=>(p.1=p.2∧Tr.Ord p.1.lst∧p.1.cnt<=400000)∨p.1.cnt≠p.2.cnt) (res:=λp=> .bool (decide (p.1.cnt=p.2.cnt))) (a:=(t,t)) Sa (.inl ⟨rfl,v,d⟩);rw[decide_eq_true rfl]at this;exact this
def aLx{a b:Tr}(h:a.cnt≠b.cnt):wM [.agg [HV a],.agg [HV b]]=some (.bool false):=by
 have:=Ca (mk:=OA) (ok:=λp=>(p.1=p.2∧Tr.Ord p.1.lst∧p.1.cnt<=400000)∨p.1.cnt≠p.2.cnt) (res:=λp=> .bool (decide (p.1.cnt=p.2.cnt))) (a:=(a,b)) Sa (.inr h);rw[decide_eq_false h]at this;exact this
def aQF:Kq wM 47:=by
 refine GQ ⟨_,func47,Z,Z⟩ λds r z vs w G hl u j=>⟨?_,?_⟩
 ·obtain⟨p,_,_,rfl⟩:=CV z;rfl
 ·obtain⟨⟨a,b⟩,g,rfl,rfl⟩:=CV z
  match vs,hl with
  |[v0,v1],_=>
   obtain⟨i,rfl,d⟩:=RC (u 0 _ v0 rfl rfl);obtain⟨q,rfl,c⟩:=RC (u 1 _ v1 rfl rfl);rcases g with ⟨e,v,s⟩|hne
   ·simp only at e v s;subst e;refine(aP2 w i q a ⟨G,d,j⟩ ⟨G,c,j⟩ v s).mono ?_;rintro e w' ⟨rfl,f⟩;exact⟨_,G,rfl,f,λb h=>j b (Qd f.size h),λ_ _=>rfl,by simp only[decide_true];exact .bool _⟩
   ·refine(aP3 w i q a b ⟨G,d,j⟩ ⟨G,c,j⟩ hne).mono ?_;rintro e w' ⟨rfl,f⟩;exact⟨_,G,rfl,f,λb h=>j b (Qd f.size h),λ_ _=>rfl,by simp only[decide_eq_false hne];exact .bool _⟩
def aXW:=Aq []
def aGz:=RF aXW aEI [.t 2,.t 3] 26
def aQ9:Kq aGz 160:=An (Aj func160) Ad
def aGy(p:Bs)(g:p.length<=1000000):aGz [.str p]=some (.tup [.str ((Tr.beyB p).getD []),.bool (Tr.beyB p).isSome]):=by
 refine Am (Qa rfl) ?_;unfold aEI;have b:IntKind.i64.wrap ((p.length:Int)-1)=(p.length:Int)-1:=H9 O O;simp only[HG,↓C2,HB,simprocAttr,b];refine eW g p.length _ _ (Qh _) rfl rfl (λe q a y o=>?_) (λa q=>?_)
 ·rw[Q7]at a;rw[a];simp only[HG,↓C2,HB,simprocAttr,y,o]
  all_goals exact Y2
 ·rw[Q7]at a;rw[a];simp only[HG,↓C2,HB,simprocAttr]
  all_goals exact Y2
def U0:=Aq [(157,Ac vU),(160,Ac aGz),(159,Ac vS)]
def aGL:=RF U0 aES [.cell (some 1) 4] 37
def aRh:Kq aGL 90:=An (Aj func90) (Aa aDi (Aa aQ9 (Aa aDg Ad)))
def aGK(t:Tr)(p:Bs)(h:bS t)(g:p.length<=1000000):aGL [.agg [HV t],.str p]=some (.agg [HV (Tr.dropT p t)]):=by
 refine Am (Qa rfl) ?_;unfold aES;have o:=S5 t p h;have w:=aGy p g;have j:=Tr.cnt_split p t;have z:=Tr.wgt_split p t;obtain⟨u,y⟩:=h;unfold Tr.dropT;cases hb:Tr.beyB p with
 |none=>
  rw[hb]at w;simp only[Zl,Zg]at w;simp only[HG,↓C2,HB,simprocAttr,HP,Ae U0 157,o,Ae U0 160,w]
  all_goals exact Y2
 |some e=>
  rw[hb]at w;simp only[QC,Qp]at w;have i:=S5 (Tr.split p t).2 e ⟨O,O⟩;have m:=Tr.cnt_split e (Tr.split p t).2;have c:=Tr.wgt_split e (Tr.split p t).2;have d:=jM (Tr.split p t).1 (Tr.split e (Tr.split p t).2).2 O O;simp only[HG,↓C2,HB,simprocAttr,HP,Ae U0 157,o,Ae U0 160,w,i,Ae U0 159,d]
  all_goals exact Y2
def U1:=Aq [(27,Ac jZ),(157,Ac vU),(158,Ac vT),(159,Ac vS)]
def aGN:=RF U1 aET [.cell (some 1) 4] 38
def aRi:Kq aGN 89:=An (Aj func89) (Aa nC (Aa aDi (Aa aDh (Aa aDg Ad))))
def aGM(t:Tr)(q:Bs)(h:bS t)(k:Tr.Ord t.lst):aGN [.agg [HV t],.str q]=some (.agg [HV (Tr.delT q t)]):=by
 refine Am (Qa rfl) ?_;unfold aET;have r:=Ob t q;have w:=S5 t q h;have j:=Tr.cnt_split q t;have z:=Tr.wgt_split q t;obtain⟨u,f⟩:=h;unfold Tr.delT;cases hg:t.get q with
 |none=>
  rw[hg]at r;simp only[Zl,Zg]at r;simp only[HG,↓C2,HB,simprocAttr,HP,Ae U1 27,r]
  all_goals exact Y2
 |some v=>
  rw[hg]at r;simp only[QC,Qp]at r;have p:(Tr.split q t).2≠ .nil:=λe=>by
   have o:=(Tr.lst_split q t k).2;rw[e,Tr.get_lst q t k]at *;rw[Tr.fil_ge k (Tr.getL_some hg)]at o;cases o
  simp only;cases hz:(Tr.split q t).2 with
  |nil=>exact absurd hz p
  |node a x y b=>
   rw[hz]at w j z;simp only[Tr.cnt,Tr.wgt]at j z;have i:=jN a x y b ⟨Xh,Xg⟩;have m:=Tr.cnt_first a x y b;have c:=Tr.wgt_first a x y b;have d:=jM (Tr.split q t).1 (Tr.first a x y b).2.2 O O;simp only[HG,↓C2,HB,simprocAttr,HP,Ae U1 27,r,Ae U1 157,w,Ae U1 158,i,Ae U1 159,d]
   all_goals exact Y2
def aBJ{a b:List (Bs×Bs)}(h:a.Sublist b):Tr.sizeL a<=Tr.sizeL b:=by
 induction h with
 |slnil=>exact Qh _
 |cons x _ ih=>obtain⟨k,v⟩:=x;rw[Tr.size_cons];omega
 |cons_cons x _ ih=>obtain⟨k,v⟩:=x;rw[Tr.size_cons,Tr.size_cons];omega
def eH(x:Op1){t:Tr}(h:Tr.Ord t.lst):(DT x t).cnt<=1+t.cnt∧(DT x t).wgt<=4+x.2.1.length+x.2.2.length+t.wgt:=by
 have j:∀u:Tr,u.lst.Sublist t.lst->u.cnt<=t.cnt∧u.wgt<=t.wgt:=λu k=>by
  rw[←Tr.cnt_lst,←Tr.cnt_lst,Tr.wgt_lst,Tr.wgt_lst t];exact⟨k.length_le,aBJ k⟩
 unfold DT;split
 ·have:=NW x.2.1 x.2.2 t;omega
 split
 ·have:=j (Tr.delT x.2.1 t) (by rw[Tr.lst_del _ t h];exact Zb);omega
 split
 ·have:=j (Tr.dropT x.2.1 t) (by rw[Tr.lst_drop _ t h];exact Tr.drop_sub _ h);omega
 ·omega
def jD:=Aq [(83,Ac vY),(89,Ac aGN),(90,Ac aGL)]
def aG6:=RF jD aE7 [.cell (some 1) 4] 37
def aRw:Kq aG6 39:=An (Aj func39) (Aa aDl (Aa aRi (Aa aRh Ad)))
def fC{l:List Op1}{nl:Bool}{Q:Ex->St->Prop}(u:∀x∈l,x.2.1.length<=100∧x.2.2.length<=400){R:Tr}(hQ:∀n,n.m [0] 0=some (HV R)->n.m [1] 0=some .nilptr->n.s 2= .ptr [0] 0->n.s 4= .ptr [1] 0->Q (.exit 0) n):
  ∀(f j:Nat)(t:Tr)(w:St) g,l.length=j+f->l.length<=100000->Tr.Ord t.lst->t.cnt+f<=700000->t.wgt+600*f<=700000000000->Bg (l.drop j) t=R->2<=w.c->w.s 2= .ptr [0] 0->w.s 4= .ptr [1] 0->w.s 7= .slice nl [] (ED l)->w.s 8= .int .i64 (l.length:Int)->w.s 9= .int .i64 (j:Int)->
   w.m [0] 0=some (HV t)->w.m [1] 0=some .nilptr->A9 jD [] NQ Q w g
 |0,j,t,w,g,hf,hl,ho,hc,hw,hR,h2c,h2,h4,h7,h8,h9,m0,m1=>by
  refine Af NQ.eq_1 ?_;have r:((j:Int)<l.length)=False:=eq_false O;rw[QP O]at hR;simp only[Bg]at hR;subst hR;simp only[HG,↓C2,HB,simprocAttr,h8,h9,r];exact hQ _ m0 m1 h2 h4
 |f+1,j,t,w,g,hf,hl,ho,hc,hw,hR,h2c,h2,h4,h7,h8,h9,m0,m1=>by
  have ih:=fC (nl:=nl) u hQ f (j+1);have z:j<l.length:=O
  have p:(ED l)[j]?=some (opD l[j]):=by unfold ED;rw[QF,Qb z];rfl
  have qa:=u l[j] (QR z);rw[Qo z]at hR;simp only[Bg]at hR;have hs:=eH l[j] ho;have d:=(DS l[j] ho).1;generalize l[j]=x at *;refine Af NQ.eq_1 ?_;obtain⟨ma,y,da⟩:=w;simp only at h2 h4 h7 h8 h9 m0 m1 h2c;have r:((j:Int)<l.length)=True:=eq_true O;have oa:=nJ (j:=j);have ra:IntKind.i64.wrap ((j:Int)+1)=((j+1:Nat):Int):=H9 O O;have z3:∀{m:HF} {i:Id} {x0 x1 x2:D},Ag (m.put i 0 [x0,x1,x2]) i 0 3=some [x0,x1,x2]:=AB rfl;obtain⟨k,q,v⟩:=x;unfold opD at p;simp only at qa hs d hR p;unfold DT at hs d hR;simp only at hs d hR;have a:∀{m:HF} {q o i:Nat} {x:List D},q<2->2<=i->m.put [i] 0 x [q] o=m [q] o:=λhq hi=>aA Xb
  have e:∀{i:Nat},2<=i->(([0]:Id)=[i])=False:=λhi=>Xb
  have b:∀{i:Nat},2<=i->(([1]:Id)=[i])=False:=λhi=>Xb
  have s1:∀{m:HF} {x:D},Ag (m.put [0] 0 [x]) [0] 0 1=some [x]:=AB rfl;have s2:∀{m:HF} {x:D},Ag (m.put [0] 0 [x]) [1] 0 1=Ag m [1] 0 1:=AG V;have h:∀{m:HF} {x:List D},m.put [0] 0 x [1] 0=m [1] 0:=aA V;have na:bS t:=⟨O,O⟩;by_cases c1:k=1
  ·subst c1;simp only[reduceIte]at hs d hR;have i1:=N8 t q v O O;simp (disch:=first|assumption|omega)only[HG,↓C2,HB,simprocAttr,HP,h2,h4,h7,h8,h9,r,oa,Qi,p,z3,a,m0,m1,Ae jD 83,i1,ra,e,b];refine ih _ _ _ O hl d O O hR Xa h2 h4 h7 h8 rfl rfl ?_;simp (disch:=omega)only[h,a,m1]
  rw[if_neg c1]at hs d hR;have n1:(k=1)=False:=eq_false c1;by_cases c2:k=2
  ·subst c2;simp only[reduceIte]at hs d hR;have i1:=aGM t q na ho;simp (disch:=first|assumption|omega)only[HG,↓C2,HB,simprocAttr,HP,h2,h4,h7,h8,h9,r,oa,Qi,p,z3,a,m0,m1,Ae jD 89,i1,ra,e,b];refine ih _ _ _ O hl d O O hR Xa h2 h4 h7 h8 rfl rfl ?_;simp (disch:=omega)only[h,a,m1]
  rw[if_neg c2]at hs d hR;have n2:(k=2)=False:=eq_false c2;by_cases c3:k=3
  ·subst c3;simp only[reduceIte]at hs d hR;have i1:=aGK t q na O;simp (disch:=first|assumption|omega)only[HG,↓C2,HB,simprocAttr,HP,h2,h4,h7,h8,h9,r,oa,Qi,p,z3,a,m0,m1,Ae jD 90,i1,ra,e,b];refine ih _ _ _ O hl d O O hR Xa h2 h4 h7 h8 rfl rfl ?_;simp (disch:=omega)only[h,a,m1]
  rw[if_neg c3]at hs d hR;have n3:(k=3)=False:=eq_false c3;simp (disch:=first|assumption|omega)only[HG,↓C2,HB,simprocAttr,HP,h2,h4,h7,h8,h9,r,oa,Qi,p,z3,a,m0,m1,n1,n2,n3,ra,e,b];refine ih _ _ _ O hl d O O hR Xa h2 h4 h7 h8 rfl ?_ ?_
  ·simp (disch:=omega)only[a,m0]
  ·simp (disch:=omega)only[a,m1]
def aG5(t:Tr)(nl:Bool)(l:List Op1)(hl:l.length<=100000)(g:∀x∈l,x.2.1.length<=100∧x.2.2.length<=400)(v:Tr.Ord t.lst)(d:t.cnt+l.length<=700000)(k:t.wgt+600*l.length<=700000000000):aG6 [.agg [HV t],.slice nl [] (ED l)]=some (.agg [HV (Bg l t)]):=by
 refine Am (Qa rfl) ?_;unfold aE7;have r:(ED l).length=l.length:=Qs ..;simp only[HG,↓C2,HB,simprocAttr,HP,r];refine fC (nl:=nl) g (R:=Bg l t) (λq a1 f o i=>?_) l.length 0 t _ _ O hl v d k rfl (by show 2<=5;decide) rfl rfl rfl rfl rfl rfl rfl;simp only[HG,↓C2,HB,simprocAttr,HP,a1,f,o,i]
 all_goals exact Y2
def NI:=y3 f96 5 [] []
def aER:=y2 f96 [] [(5,NI)]
def SI:=y3 f98 3 [] []
def aEQ:=y2 f98 [] [(3,SI)]
def NF:=y3 f167 6 [] []
def NE:=y3 f167 4 [] [(6,NF)]
def aEH:=y2 f167 [] [(4,NE)]
def NP:=y3 f43 2 [] []
def aE6:=y2 f43 [] [(2,NP)]
def SH:=y3 f100 5 [] []
def aEP:=y2 f100 [] [(5,SH)]
def aE5:=y2 f45 [(17,[(7,0)]),(20,[(7,0)]),(27,[(6,0)]),(38,[(8,0)]),(39,[(3,0)])] []
def NT:=y3 f15 11 [] []
def aFg:=y2 f15 [] [(11,NT)]
def CL(c:UInt8):Int:=if 48<=c.toNat∧c.toNat<=57 then(c.toNat:Int)-48 else if 97<=c.toNat∧c.toNat<=102 then(c.toNat:Int)-87 else-1
def jG(c:UInt8):aSU [.int .u8 (c.toNat:Int)]=some (.int .i64 (CL c)):=by
 refine Am (Qa rfl) ?_;have d:=c.toNat_lt;unfold aNp CL;by_cases u:48<=c.toNat∧c.toNat<=57
 ·have a1:((48:Int)<=(c.toNat:Int))=True:=eq_true O;have f:((c.toNat:Int)<=57)=True:=eq_true O;have m:IntKind.u8.wrap ((c.toNat:Int)-48)=(c.toNat:Int)-48:=w8 O O;have n:IntKind.i64.wrap ((c.toNat:Int)-48)=(c.toNat:Int)-48:=H9 O O;rw[if_pos u];simp only[HG,↓C2,HB,simprocAttr,a1,f,m,n]
  all_goals exact Y2
 rw[if_neg u];by_cases y:97<=c.toNat∧c.toNat<=102
 ·have a1:((48:Int)<=(c.toNat:Int))=True:=eq_true O;have f:((c.toNat:Int)<=57)=False:=eq_false O;have o:((97:Int)<=(c.toNat:Int))=True:=eq_true O;have i:((c.toNat:Int)<=102)=True:=eq_true O;have m:IntKind.u8.wrap ((c.toNat:Int)-97)=(c.toNat:Int)-97:=w8 O O;have n:IntKind.i64.wrap ((c.toNat:Int)-97)=(c.toNat:Int)-97:=H9 O O;have t:IntKind.i64.wrap ((c.toNat:Int)-97+10)=(c.toNat:Int)-87:=by rw[H9 O O];omega
  rw[if_pos y];simp only[HG,↓C2,HB,simprocAttr,a1,f,o,i,m,n,t]
  all_goals exact Y2
 rw[if_neg y];by_cases x:48<=c.toNat
 ·have a1:((48:Int)<=(c.toNat:Int))=True:=eq_true O;have f:((c.toNat:Int)<=57)=False:=eq_false O;by_cases v:97<=c.toNat
  ·have o:((97:Int)<=(c.toNat:Int))=True:=eq_true O;have i:((c.toNat:Int)<=102)=False:=eq_false O;simp only[HG,↓C2,HB,simprocAttr,a1,f,o,i]
   all_goals exact Y2
  ·have o:((97:Int)<=(c.toNat:Int))=False:=eq_false O;simp only[HG,↓C2,HB,simprocAttr,a1,f,o]
   all_goals exact Y2
 ·have a1:((48:Int)<=(c.toNat:Int))=False:=eq_false O;have o:((97:Int)<=(c.toNat:Int))=False:=eq_false O;simp only[HG,↓C2,HB,simprocAttr,a1,o]
  all_goals exact Y2
def aEi(c:UInt8):-1<=CL c∧CL c<=15:=by
 unfold CL
 repeat' split
 all_goals omega
def Ff:Bs->Option Bs
 |[]=>some []
 |[_]=>none
 |a::b::r=>if CL a<0∨CL b<0 then none else(Ff r).map λx=>UInt8.ofNat (16*CL a+CL b).toNat::x
def cI(a b:UInt8)(r:Bs):Ff (a::b::r)=if CL a<0∨CL b<0 then none else(Ff r).map λx=>UInt8.ofNat (16*CL a+CL b).toNat::x:=by rw[Ff]
def qT:∀(n:Nat)(s:Bs),s.length=2*n+1->Ff s=none
 |0,s,h=>by
  match s,h with
  |[_],_=>rfl
 |n+1,s,h=>by
  match s,h with
  |a::b::r,h=>
   have:=qT n r YG;unfold Ff;rw[this];split<;>rfl
def aGk(s:Bs)(hl:s.length<=1000000):aS8 [.str s]=some (.tup [.str ((Ff s).getD []),.bool (Ff s).isSome]):=by
 refine Am (Qa rfl) ?_;unfold aNU;rcases(by omega:s.length=2*(s.length / 2)∨s.length=2*(s.length / 2)+1)with he|he
 ·have hm:((s.length:Int).tmod 2)=0:=by rw[Zh O];omega
  have hq:IntKind.i64.wrap ((s.length:Int).tdiv 2)=((s.length / 2:Nat):Int):=by rw[Int.tdiv_eq_ediv_of_nonneg O,H9 O O];omega
  generalize w:s.length / 2=n at *;simp only[↓C2,HE,HB,reduceIte,Qt,Qr,reduceCtorEq,Ze,Zf,hm,hq];refine aB ⟨O,O⟩ ?_;simp only[↓C2,HH,HB,reduceIte,Qt,Qr];refine BX (n:=n) (I:=λj v=>v.s 0= .str s∧v.s 5= .int .i64 ((2*j:Nat):Int)∧∃t z,v.s 4= .slice false t (AF z)∧z.length=j∧Ff s=(Ff (s.drop (2*j))).map (z++·)∧LG 9 _ 5 v.m v.c false t) (λj hj ih v g hI=>?_) (λv g hI=>?_) 0 (Ql _) _ _ ⟨rfl,rfl,_,[],rfl,rfl,by cases h:Ff s<;>simp[h],⟨λ_ _ _=>rfl,.inr ⟨_,rfl,O,Xa,XU⟩,Xa⟩⟩
  ·obtain⟨ma,ia,da⟩:=v;obtain⟨q,h5,t,z,h4,va,hu,hG⟩:=hI;simp only at q h5 h4 hG;refine Af Wo.eq_1 ?_;have x:(((2*j:Nat):Int)<(s.length:Int)):=by omega
   have oa:(0:Int)<=((2*j:Nat):Int):=O
   have d:(0:Int)<=((2*j+1:Nat):Int):=O
   have ra:IntKind.i64.wrap (((2*j:Nat):Int)+1)=((2*j+1:Nat):Int):=H9 O O;have i:IntKind.i64.wrap (((2*j:Nat):Int)+2)=((2*(j+1):Nat):Int):=YR
   have b1:s[2*j]?=some (s[2*j]' O):=Qb _;have b2:s[2*j+1]?=some (s[2*j+1]' O):=Qb _;have o:s.drop (2*j)=s[2*j]' O::s[2*j+1]' O::s.drop (2*(j+1)):=by
    rw[Qo O,Qo O];rfl
   rw[o]at hu;generalize (s[2*j]' O)=a at *;generalize (s[2*j+1]' O)=b at *;have u:=jG a;have y:=jG b;have k1:=aEi a;have k2:=aEi b;have r:∀a:Int,AP .shl (.int .i64 a) (.int .u64 4)=some (.int .i64 (IntKind.i64.wrap (a*2 ^ min (4:Int).toNat IntKind.i64.bits))):=λa=>rfl
   rw[cI]at hu;simp only[↓C2,HE,reduceIte,Qt,Qr,reduceCtorEq,q,h5,x,oa,d,ra,Qi,b1,b2,Ae aXH 165,u,y];refine A0 ?_;by_cases n1:CL a<0
   ·rw[if_pos (.inl n1)]at hu;rw[hu];have f:(CL a<0)=True:=eq_true n1;simp only[↓C2,HE,HB,reduceIte,Qt,Qr,reduceCtorEq,h4,f]
    all_goals exact Y2
   by_cases n2:CL b<0
   ·rw[if_pos (.inr n2)]at hu;rw[hu];have f:(CL a<0)=False:=eq_false n1;have e:(CL b<0)=True:=eq_true n2;simp only[↓C2,HE,HB,reduceIte,Qt,Qr,reduceCtorEq,h4,f,e]
    all_goals exact Y2
   rw[if_neg (λh=>h.elim n1 n2)]at hu;have f:(CL a<0)=False:=eq_false n1;have e:(CL b<0)=False:=eq_false n2;have or:=orE (CL a).toNat O (CL b).toNat O;rw[Zc O,Zc O]at or;have k:((16*(CL a).toNat+(CL b).toNat:Nat):Int)=16*CL a+CL b:=O
   rw[k]at or;have p:((UInt8.ofNat (16*CL a+CL b).toNat).toNat:Int)=16*CL a+CL b:=by
    rw[UInt8.toNat_ofNat'];omega
   have qa:AF z++[.int .u8 (16*CL a+CL b)]=AF (z++[UInt8.ofNat (16*CL a+CL b).toNat]):=by
    rw[FE];show _=AF z++[.int .u8 ((UInt8.ofNat (16*CL a+CL b).toNat).toNat:Int)];rw[p]
   have ja:(AF z).length=j:=by rw[CA,va]
   simp only[↓C2,HE,HB,reduceIte,Qt,Qr,reduceCtorEq,h4,f,e,r,or];refine aB ⟨by simp only[ja];omega,rfl,YY⟩ ?_;rw[qa];simp only[↓C2,HE,HB,reduceIte,Qt,Qr,h5,i];refine ih _ _ ⟨q,rfl,_,_,rfl,by simp[va],?_,(by first|exact LG.nil (hG.appf O Xa)|exact LG.nil ((hG.put O).appf O Xa)|exact LG.nil (((hG.put O).put O).appf O Xa)|exact LG.nil ((((hG.put O).put O).put O).appf O Xa)|exact LG.nil (((((hG.put O).put O).put O).put O).appf O Xa)|exact LG.nil ((((((hG.put O).put O).put O).put O).put O).appf O Xa))⟩;rw[hu];cases Ff (s.drop (2*(j+1)))<;>simp
  ·obtain⟨q,h5,t,z,h4,va,hu,hG⟩:=hI;refine Af Wo.eq_1 ?_;have pa:(((2*n:Nat):Int)<(s.length:Int))=False:=eq_false O;rw[QP O]at hu;rw[hu];simp only[QT,↓C2,HE,HB,reduceIte,Qt,Qr,reduceCtorEq,q,h5,h4,pa,Df]
   all_goals (first|rfl|exact⟨rfl,rfl⟩|(simp[Ff];done))
 ·have hm:((s.length:Int).tmod 2)=1:=by rw[Zh O];omega
  rw[qT _ s he];simp only[HG,↓C2,HB,simprocAttr,hm]
  all_goals exact Y2
def Wg(s:Bs)(p:Nat):(H6 s p<128∧Utf8.decode ⟨s.toArray⟩ p=(H6 s p,1))∨(128<=H6 s p∧128<=(Utf8.decode ⟨s.toArray⟩ p).1):=by
 by_cases h:H6 s p<128
 ·refine .inl ⟨h,?_⟩;unfold Utf8.decode;simp only[OI,Z5,h,if_true]
 ·refine .inr ⟨O,?_⟩;have w:=Py s p;unfold Utf8.decode;simp only[OI,Z5,h,if_false]
  (repeat' split)<;>simp_all [Utf8.runeError]<;>omega
def nuS(s:Bs):Nat->Nat->Int->Int
 |0,_,n=>n
 |f+1,p,n=>if p<s.length then(if 48<=H6 s p∧H6 s p<=57 then nuS s f (p+1) (10*n+((H6 s p:Int)-48))else-1)else n
def kQ(s:Bs):Int:=if s=[]∨3<s.length∨(1<s.length∧s.head?=some 48)then-1 else nuS s s.length 0 0
def bN(p:Nat):Int:=if p=0 then 0 else if p=1 then 9 else if p=2 then 99 else 999
def aXq(p:Nat):bN p<=999:=by unfold bN;repeat' split<;>omega
def aKf{p:Nat}{n c:Int}(h:n<=bN p)(g:p<3)(d:c<=9):10*n+c<=bN (p+1):=by
 rcases(by omega:p=0∨p=1∨p=2)with rfl|rfl|rfl<;>simp[bN]at *<;>omega
def aTF{x:Int}(u:-2147483648<=x)(y:x<2147483648):IntKind.i32.wrap x=x:=IntWalk.i32_in _ ⟨u,O⟩
def eY{S:HD}{ns i:Id}{s:Bs}{Q:Ex->St->Prop}{e:Int}(j:s.length<=3)(r:∀v,e=-1->v.s 2= .int .i64 (-1)->Q .ret v)(t:∀v,v.s 3= .int .i64 e->Q (.exit 0) v):
  ∀(f p:Nat)(n:Int) v g,s.length<=p+f->0<=n->n<=bN p->nuS s f p n=e->v.s 24= .itp i->v.s 3= .int .i64 n->v.m i 1=some (.it s p)->A9 S ns NI Q v g:=by
 intro f;induction f with
 |zero=>
  intro p n v g k z a y b o u;refine Af NI.eq_1 ?_;have:¬(p<s.length):=O
  simp only[↓C2,HH,HZ,simprocAttr,u,b,this];exact t _ (by rw[←y];exact o)
 |succ f ih=>
  intro p n v g k z a y b o u;refine Af NI.eq_1 ?_;unfold nuS at y;have q:=aXq p;by_cases d:p<s.length
  ·rw[if_pos d]at y;rcases Wg s p with ⟨d1,x⟩|⟨d1,x⟩
   ·have hp:v.m.put i 1 [.it s (p+(Utf8.decode ⟨s.toArray⟩ p).2)] i 1=some (.it s (p+1)):=by rw[Es,if_pos ⟨rfl,rfl⟩,x]
    by_cases c:48<=H6 s p∧H6 s p<=57
    ·rw[if_pos c]at y;have a1:((H6 s p:Int)<48)=False:=eq_false O;have a2:((57:Int)<(H6 s p:Int))=False:=eq_false O;have e1:IntKind.i64.wrap (10*n)=10*n:=H9 O O;have w:IntKind.i32.wrap ((H6 s p:Int)-48)=(H6 s p:Int)-48:=aTF O O;have e3:IntKind.i64.wrap ((H6 s p:Int)-48)=(H6 s p:Int)-48:=H9 O O;have e4:IntKind.i64.wrap (10*n+((H6 s p:Int)-48))=10*n+((H6 s p:Int)-48):=H9 O O;simp only[↓C2,HH,HZ,simprocAttr,u,b,o,d,x,a1,a2,e1,w,e3,e4];exact ih (p+1) _ _ _ O O (aKf a O O) y b rfl hp
    ·rw[if_neg c]at y;by_cases c1:H6 s p<48
     ·have a1:((H6 s p:Int)<48)=True:=eq_true O;simp only[↓C2,HH,HZ,simprocAttr,u,b,o,d,x,a1];exact r _ y.symm rfl
     ·have a1:((H6 s p:Int)<48)=False:=eq_false O;have a2:((57:Int)<(H6 s p:Int))=True:=eq_true O;simp only[↓C2,HH,HZ,simprocAttr,u,b,o,d,x,a1,a2];exact r _ y.symm rfl
   ·rw[if_neg O]at y;have a1:(((Utf8.decode ⟨s.toArray⟩ p).1:Int)<48)=False:=eq_false O;have a2:((57:Int)<((Utf8.decode ⟨s.toArray⟩ p).1:Int))=True:=eq_true O;simp only[↓C2,HH,HZ,simprocAttr,u,b,o,d,a1,a2];exact r _ y.symm rfl
  ·rw[if_neg d]at y;simp only[↓C2,HH,HZ,simprocAttr,u,b,d];exact t _ (by rw[←y];exact o)
def aXY:=Aq []
def vX:=RF aXY aER [.t 2] 41
def aDk:Kq vX 96:=An (Aj func96) Ad
def jP(s:Bs):vX [.str s]=some (.int .i64 (kQ s)):=by
 refine Am (Qa rfl) ?_;unfold aER;unfold kQ;by_cases b:s=[]
 ·subst b;rw[if_pos (.inl rfl)];simp only[HG,↓C2,HB,simprocAttr]
  all_goals exact Y2
 have x:(s=[])=False:=eq_false b;by_cases o:3<s.length
 ·rw[if_pos (.inr (.inl o))];have c1:((3:Int)<(s.length:Int))=True:=eq_true O;simp only[HG,↓C2,HB,simprocAttr,x,c1]
  all_goals exact Y2
 have c1:((3:Int)<(s.length:Int))=False:=eq_false O;have p:s[0]?=s.head?:=by cases s<;>rfl
 by_cases u:1<s.length
 ·have c2:((1:Int)<(s.length:Int))=True:=eq_true O;obtain⟨c,r,rfl⟩:∃c r,s=c::r:=by cases s with|nil=>exact absurd rfl b|cons c r=>exact⟨c,r,rfl⟩
  by_cases y:c=48
  ·rw[if_pos (.inr (.inr ⟨u,XI⟩))];have t:((c.toNat:Int)=48)=True:=eq_true XI;simp only[HG,↓C2,HB,simprocAttr,x,c1,c2,Qv,t]
   all_goals exact Y2
  ·rw[if_neg (by rintro(h|h|⟨_,h⟩);exact b h;exact o h;exact y (Y_ h))];have t:((c.toNat:Int)=48)=False:=eq_false (λe=>y (UInt8.toNat_inj.1 (by show c.toNat=48;omega)));simp only[HG,↓C2,HB,simprocAttr,x,c1,c2,Qv,t];refine eY (s:=c::r) O (λv j h=>?_) (λv h=>?_) (c::r).length 0 0 _ _ O (Q6 _) V rfl rfl rfl rfl
   ·rw[j];simp only[HG,↓C2,HB,simprocAttr,h]
    all_goals exact Y2
   ·simp only[HG,↓C2,HB,simprocAttr,h]
    all_goals exact Y2
 ·have c2:((1:Int)<(s.length:Int))=False:=eq_false O;rw[if_neg (by rintro(h|h|⟨h,_⟩);exact b h;exact o h;exact u h)];simp only[HG,↓C2,HB,simprocAttr,x,c1,c2];refine eY (s:=s) O (λv j h=>?_) (λv h=>?_) s.length 0 0 _ _ O (Q6 _) V rfl rfl rfl rfl
  ·rw[j];simp only[HG,↓C2,HB,simprocAttr,h]
   all_goals exact Y2
  ·simp only[HG,↓C2,HB,simprocAttr,h]
   all_goals exact Y2
def opS(w:Bs):Nat->Nat->Int
 |0,_=>0
 |f+1,k=>if EU (k:Int)=w then(k:Int)else opS w f (k+1)
def opF(w:Bs):Int:=opS w 18 1
def aCs(w:Bs):∀(f k:Nat),1<=k->0<=opS w f k∧opS w f k<=max 0 ((k:Int)+f-1)
 |0,k,h=>by unfold opS;omega
 |f+1,k,h=>by
  have:=aCs w f (k+1) O;unfold opS;split<;>omega
def aMf(w:Bs):0<=opF w∧opF w<=18:=by
 have:=aCs w 18 1 (Qh _);unfold opF;omega
def vD:=Aq [(44,Ac aAX)]
def aG4:=RF vD aE6 [.t 2] 14
def aRv:Kq aG4 43:=An (Aj func43) (Aa sB Ad)
def fB{w:Bs}{Q:Ex->St->Prop}{e:Int}(r:∀v,v.s 2= .int .u8 e->Q .ret v)(p:∀v,e=0->Q (.exit 0) v):∀(f k:Nat)(v:St) g,k+f=19->opS w f k=e->v.s 0= .str w->v.s 3= .int .u8 (k:Int)->A9 vD [] NP Q v g
 |0,k,v,g,hf,he,h0,h3=>by
  refine Af NP.eq_1 ?_;have o:((k:Int)<=18)=False:=eq_false O;simp only[HG,↓C2,HB,simprocAttr,h0,h3,o];exact p _ he.symm
 |f+1,k,v,g,hf,he,h0,h3=>by
  have ih:=fB (w:=w) r p f (k+1);refine Af NP.eq_1 ?_;obtain⟨i,y,u⟩:=v;simp only at h0 h3;have o:((k:Int)<=18)=True:=eq_true O;have n:=Rq (op:=(k:Int)) O O;have m:IntKind.u8.wrap ((k:Int)+1)=((k+1:Nat):Int):=by rw[w8 O O];omega
  unfold opS at he;by_cases c:EU (k:Int)=w
  ·rw[if_pos c]at he;have c':(EU (k:Int)=w)=True:=eq_true c;simp only[HG,↓C2,HB,simprocAttr,h0,h3,o,Ae vD 44,n,c'];exact r _ (by rw[←he];rfl)
  ·rw[if_neg c]at he;have c':(EU (k:Int)=w)=False:=eq_false c;simp only[HG,↓C2,HB,simprocAttr,h0,h3,o,Ae vD 44,n,c',m];exact ih _ _ O he h0 rfl
def aG3(w:Bs):aG4 [.str w]=some (.int .u8 (opF w)):=by
 refine Am (Qa rfl) ?_;unfold aE6;simp only[HG,↓C2,HB,simprocAttr];refine fB (w:=w) (e:=opF w) (λv h=>?_) (λv h=>?_) 18 1 _ _ rfl rfl rfl rfl
 ·simp only[HG,↓C2,HB,simprocAttr,h]
  all_goals exact Y2
 ·rw[h];simp only[HG,↓C2,HB,simprocAttr]
  all_goals exact Y2
def aGe:=Aq [(42,Ac D5),(96,Ac vX)]
def aGJ:=RF aGe aEQ [.t 2] 20
def aRg:Kq aGJ 98:=An (Aj func98) (Aa aI1 (Aa aDk Ad))
def aGI(s:Bs)(hl:s.length<=1000):aGJ [.str s]=some (.slice false [] (AI ((splitC 44 s).map kQ))):=by
 refine Am (Qa rfl) ?_;unfold aEQ;have i:=O6 (s:=s) (q:=44) O;have xa:=CO (q:=44) s;have p:=E6 (q:=44) s;generalize splitC 44 s=l at *;have r:((strsD l).length:Int)=(l.length:Int):=by rw[AR]
 simp only[HG,↓C2,HB,simprocAttr,Ae aGe 42,i,r];refine BX (n:=l.length) (I:=λj v=>v.s 7= .slice false [] (strsD l)∧v.s 8= .int .i64 ((strsD l).length:Int)∧v.s 9= .int .i64 (j:Int)∧∃nl t,v.s 3= .slice nl t (AI ((l.take j).map kQ))∧nl=decide (j=0)∧LG 0 _ 3 v.m v.c nl t) (λj u ih v g hI=>?_) (λv g hI=>?_) 0 (Ql _) _ _ ⟨rfl,rfl,rfl,true,[],rfl,rfl,LG.start Xa⟩
 ·obtain⟨ma,y,da⟩:=v;obtain⟨h7,h8,h9,nl,t,o,w,f⟩:=hI;simp only at h7 h8 h9 o f;rw[r]at h8;refine Af SI.eq_1 ?_;have d:((j:Int)<l.length):=by omega
  have oa:=nJ (j:=j);have k:=wJ (j:=j) O;have ka:(strsD l)[j]?=some (.str (l[j]' O)):=by unfold strsD;rw[QF,Qb O];rfl
  have h:=jP (l[j]' O);have qa:AI ((l.take (j+1)).map kQ)=AI ((l.take j).map kQ)++[.int .i64 (kQ (l[j]' O))]:=by
   rw[QJ O,Q5];simp[AI]
  have x:(AI ((l.take j).map kQ)).length=j:=by simp[AI];omega
  have na:nl=true->AI ((l.take j).map kQ)=[]:=by
   grind
  generalize AI ((l.take j).map kQ)=z at o qa x na;simp only[HG,↓C2,HB,simprocAttr,h7,h8,h9,o,d,oa,Qi,ka,Ae aGe 96,h];refine aB ⟨O,rfl,(by first|exact f.grow|exact(f.put O).grow|exact((f.put O).put O).grow|exact(((f.put O).put O).put O).grow|exact((((f.put O).put O).put O).put O).grow|exact(((((f.put O).put O).put O).put O).put O).grow)⟩ ?_;rw[BF na,←qa];simp only[HG,↓C2,HB,simprocAttr,h9,k];exact ih _ _ ⟨h7,by rw[r];exact h8,rfl,false,_,rfl,U,(by first|exact f.app O Xa|exact(f.put O).app O Xa|exact((f.put O).put O).app O Xa|exact(((f.put O).put O).put O).app O Xa|exact((((f.put O).put O).put O).put O).app O Xa|exact(((((f.put O).put O).put O).put O).put O).app O Xa)⟩
 ·obtain⟨ma,y,da⟩:=v;obtain⟨h7,h8,h9,nl,t,o,w,f⟩:=hI;simp only at h7 h8 h9 o f;rw[r]at h8;refine Af SI.eq_1 ?_;have e:decide (l.length=0)=false:=decide_eq_false (by cases l with|nil=>exact absurd rfl p|cons a b=>simp);rw[Zq (Qh _)]at o;rw[e]at w;subst w;simp only[HG,↓C2,HB,simprocAttr,h8,h9,o,ZB]
  all_goals exact Y2
def aBN:List Nat:=[114,119,100,120,108,115]
def DN(c:Nat):Nat->Nat->Nat
 |0,k=>k
 |f+1,k=>if k<6∧aBN.getD k 0≠c then DN c f (k+1)else k
def pA(s:Bs):Nat->Nat->Nat->Nat->Nat×Bool
 |0,_,_,o=>(o,true)
 |f+1,p,k,o=>if p<s.length then(if DN (H6 s p) (6-k) k=6 then(0,false)else pA s f (p+1) (DN (H6 s p) (6-k) k+1) (o|||2 ^ DN (H6 s p) (6-k) k))else(o,true)
def OU(s:Bs):Nat×Bool:=pA s s.length 0 0 0
def Vo(c:Nat):∀f k,k<=6->k<=DN c f k∧DN c f k<=6
 |0,k,h=>by unfold DN;omega
 |f+1,k,h=>by
  unfold DN;split
  ·rename_i u;have:=Vo c f (k+1) O;omega
  ·omega
def cZ{c d:Nat}(s:128<=c)(z:128<=d):∀f k,DN c f k=DN d f k
 |0,k=>rfl
 |f+1,k=>by
  have v:∀k,aBN.getD k 0<128:=λk=>by
   rcases(by omega:k=0∨k=1∨k=2∨k=3∨k=4∨k=5∨6<=k)with rfl|rfl|rfl|rfl|rfl|rfl|h
   all_goals first|decide|(simp[aBN,ZN,List.getElem?_eq_none (show [114,119,100,120,108,115].length<=k from h)])
  have:=v k;unfold DN;rw[cZ s z f (k+1)];by_cases h:k<6
  ·rw[if_pos ⟨h,O⟩,if_pos ⟨h,O⟩]
  ·rw[if_neg (λe=>h e.1),if_neg (λe=>h e.1)]
def aMe:∀o,o<64->∀k,k<6->(o|||2 ^ k)<64:=V
def uR(s:Bs):∀f p k o,k<=6->o<64->(pA s f p k o).1<64
 |0,p,k,o,hk,h=>h
 |f+1,p,k,o,hk,h=>by
  have q:=Vo (H6 s p) (6-k) k hk;unfold pA;split
  ·split
   ·decide
   ·exact uR s f _ _ _ O (aMe o h _ O)
  ·exact h
def aSl(s:Bs):(OU s).1<64:=uR s _ 0 0 0 V V
def aUi:∀o,o<64->∀k,k<6->bits .or .u8 ((o:Nat):Int) ((2 ^ k:Nat):Int)=((o|||2 ^ k:Nat):Int):=V
def aWO{o k:Nat}(v:o<64)(g:k<6):AP .or (.int .u8 (o:Int)) (.int .u8 ((2 ^ k:Nat):Int))=some (.int .u8 ((o|||2 ^ k:Nat):Int)):=by
 rw[←aUi o v k g];rfl
def aR1{k:Nat}(g:k<6):AP .shl (.int .u8 1) (.int .i64 (k:Int))=some (.int .u8 ((2 ^ k:Nat):Int)):=by
 rcases(by omega:k=0∨k=1∨k=2∨k=3∨k=4∨k=5)with rfl|rfl|rfl|rfl|rfl|rfl<;>rfl
def Ur{S:HD}{ns:Id}{r:Nat}{Q:Ex->St->Prop}:∀(f k:Nat)(v:St) g,k+f=6->(∀q,q.m=v.m->q.c≥v.c->q.s 5= .int .i64 (DN r f k:Nat)->(∀j,j=4∨j=7∨j=9->q.s j=v.s j)->Q (.exit 2) q)->v.s 5= .int .i64 (k:Int)->v.s 7= .int .i32 (r:Int)->A9 S ns NF Q v g
 |0,k,v,g,hf,hexit,h5,h7=>by
  refine Af NF.eq_1 ?_;have o:((k:Int)<6)=False:=eq_false O;simp only[HG,↓C2,HB,simprocAttr,h5,h7,o];exact hexit _ rfl Xa h5 (by rintro j (rfl|rfl|rfl)<;>rfl)
 |f+1,k,v,g,hf,hexit,h5,h7=>by
  refine Af NF.eq_1 ?_;have ih:=Ur (S:=S) (ns:=ns) (r:=r) (Q:=Q) f (k+1);obtain⟨ma,y,u⟩:=v;simp only at h5 h7 hexit;have o:((k:Int)<6)=True:=eq_true O;have x:(0:Int)<=(k:Int):=O
  obtain⟨c,b,i⟩:∃c:UInt8,([114,119,100,120,108,115]:List UInt8)[k]?=some c∧c.toNat=aBN.getD k 0:=by
   rcases(by omega:k=0∨k=1∨k=2∨k=3∨k=4∨k=5)with rfl|rfl|rfl|rfl|rfl|rfl<;>exact⟨_,rfl,rfl⟩
  have t:=c.toNat_lt;have e1:IntKind.i32.wrap (c.toNat:Int)=(c.toNat:Int):=aTF O O;have w:IntKind.i64.wrap ((k:Int)+1)=((k+1:Nat):Int):=Xi
  unfold DN at hexit;rw[←i]at hexit;by_cases h:c.toNat=r
  ·rw[if_neg (λe=>e.2 h)]at hexit;have a1:((c.toNat:Int)=(r:Int))=True:=eq_true O;simp only[HG,↓C2,HB,simprocAttr,h5,h7,o,x,b,e1,a1,Qi];exact hexit _ rfl Xa h5 (by rintro j (rfl|rfl|rfl)<;>rfl)
  ·rw[if_pos ⟨O,h⟩]at hexit;have a1:((c.toNat:Int)=(r:Int))=False:=eq_false O;simp only[HG,↓C2,HB,simprocAttr,h5,h7,o,x,b,e1,w,a1,Qi];exact ih _ _ O (λq n d a z=>hexit q n (by simp only at d;omega) a (λj p=>(z j p).trans (by rcases p with rfl|rfl|rfl<;>rfl))) rfl h7
def aCX{S:HD}{ns i:Id}{s:Bs}{Q:Ex->St->Prop}{e:Nat×Bool}(pa:∀v,e=(0,false)->v.s 2= .int .u8 0->v.s 3= .bool false->Q .ret v)(ga:∀v,e.2=true->v.s 4= .int .u8 (e.1:Int)->Q (.exit 0) v):
  ∀(f p k o:Nat)(v:St) g,s.length<=p+f->k<=6->o<64->pA s f p k o=e->v.s 9= .itp i->v.s 4= .int .u8 (o:Int)->v.s 5= .int .i64 (k:Int)->v.m i 1=some (.it s p)->A9 S ns NE Q v g:=by
 intro f;induction f with
 |zero=>
  intro p k o v g hf hk ho c h9 h4 h5 hm;refine Af NE.eq_1 ?_;have:¬(p<s.length):=O
  simp only[↓C2,HH,HZ,simprocAttr,hm,h9,this];unfold pA at c;subst c;exact ga _ rfl h4
 |succ f ih=>
  intro p k o v g hf hk ho c h9 h4 h5 hm;refine Af NE.eq_1 ?_;obtain⟨ma,ia,t⟩:=v;simp only at h9 h4 h5 hm;unfold pA at c;by_cases d:p<s.length
  ·rw[if_pos d]at c;have x:=Vo (H6 s p) (6-k) k hk;simp only[↓C2,HH,HZ,simprocAttr,hm,h9,d];have b:DN (Utf8.decode ⟨s.toArray⟩ p).1 (6-k) k=DN (H6 s p) (6-k) k:=by
    rcases Wg s p with ⟨d1,d2⟩|⟨d1,d2⟩
    ·rw[d2]
    ·exact cZ d2 d1 _ _
   refine Ur (r:=(Utf8.decode ⟨s.toArray⟩ p).1) (6-k) k _ _ O (λn j oa a z=>?_) h5 rfl;rw[b]at a;generalize hq:DN (H6 s p) (6-k) k=q at *;have j4:=(z 4 (.inl rfl)).trans h4;have j9:=(z 9 (.inr (.inr rfl))).trans h9;by_cases h6:q=6
   ·subst h6;rw[if_pos rfl]at c;have a:n.s 5= .int .i64 6:=a;simp only[HG,↓C2,HB,simprocAttr,a];exact pa _ c.symm rfl rfl
   ·rw[if_neg h6]at c;have hp:p<s.length:=d;have hw:(Utf8.decode ⟨s.toArray⟩ p).2=1:=by
     rcases Wg s p with ⟨d1,d2⟩|⟨d1,d2⟩
     ·rw[d2]
     ·exfalso;have:∀f k,k<=6->k+f=6->DN (H6 s p) f k=6:=by
       intro f;induction f with
       |zero=>intro k _ h;unfold DN;omega
       |succ f ih=>
        intro k u y;unfold DN;have:aBN.getD k 0<128:=by
         rcases(by omega:k=0∨k=1∨k=2∨k=3∨k=4∨k=5)with rfl|rfl|rfl|rfl|rfl|rfl<;>decide
        rw[if_pos ⟨O,O⟩];exact ih (k+1) O O
      exact h6 (hq.symm.trans (this (6-k) k hk O))
    have a1:((q:Int)=6)=False:=eq_false O;have e1:=aR1 (k:=q) O;have w:=aWO (o:=o) (k:=q) ho O;have e3:IntKind.i64.wrap ((q:Int)+1)=((q+1:Nat):Int):=Xi
    simp only[HG,↓C2,HB,simprocAttr,a,j4,a1,e1,w,e3];refine ih (p+1) (q+1) (o|||2 ^ q) _ _ O O (aMe o ho q O) c j9 rfl rfl ?_;show n.m i 1=_;rw[j];show ia.put i 1 [.it s (p+(Utf8.decode ⟨s.toArray⟩ p).2)] i 1=_;rw[Es,if_pos ⟨rfl,rfl⟩,hw]
  ·rw[if_neg d]at c;simp only[↓C2,HH,HZ,simprocAttr,hm,h9,d];subst c;exact ga _ rfl h4
def aXV:=Aq []
def aGx:=RF aXV aEH [.t 2,.t 3] 33
def aQ8:Kq aGx 167:=An (Aj func167) Ad
def aGw(s:Bs):aGx [.str s]=some (.tup [.int .u8 ((OU s).1:Nat),.bool (OU s).2]):=by
 refine Am (Qa rfl) ?_;unfold aEH;simp only[HG,↓C2,HB,simprocAttr];refine aCX (s:=s) (e:=OU s) (λv c y o=>?_) (λv c j=>?_) s.length 0 0 0 _ _ O V V rfl rfl rfl rfl rfl
 ·rw[c];simp only[HG,↓C2,HB,simprocAttr,y,o]
  all_goals exact Y2
 ·rw[c];simp only[HG,↓C2,HB,simprocAttr,j]
  all_goals exact Y2
def GC{q:UInt8}:∀(s:Bs),∀x∈splitC q s,x.length<=s.length
 |[],x,h=>by simp only[splitC,Qc]at h;subst h;exact Qh _
 |c::r,x,h=>by
  have ih:=GC (q:=q) r;unfold splitC at h;split at h
  ·rcases Qw.1 h with rfl|h
   ·exact Ql _
   ·have:=ih x h;simp only[Qk];omega
  ·cases hs:splitC q r with
   |nil=>
    rw[hs]at h;simp only[Qc]at h;subst h;simp
   |cons y t=>
    rw[hs]at h ih;simp only[Qw]at h;rcases h with rfl|h
    ·have:=ih y Qj;simp only[Qk];omega
    ·have:=ih x (Qg _ h);simp only[Qk];omega
def uI(x:Bs)(c:UInt8):(BZ x c).1.length<=x.length:=by
 unfold BZ;split
 ·exact Qh _
 ·exact List.length_take_le' _ _
def I9(x:Bs):Bool:=(BZ x 58).2.2&&(OU (BZ x 58).2.1).2
def Th(x:Bs):Rl:=((BZ x 58).1,((OU (BZ x 58).2.1).1:Int))
def FK(s:Bs):Bool×List Rl×Int:=
 if s=[]then(true,[],0)else if(splitC 44 s).all I9=false then(true,[],4)else if Cg ((splitC 44 s).map Th)≠0 then(true,[],Cg ((splitC 44 s).map Th))else(false,(splitC 44 s).map Th,0)
def Mp:=Aq [(42,Ac D5),(166,Ac aKL),(167,Ac aGx),(168,Ac aA8)]
def vW:=RF Mp aEP [.t 2,.t 3] 52
def aDj:Kq vW 100:=An (Aj func100) (Aa aI1 (Aa aMD (Aa aQ8 (Aa eJ Ad))))
def jO(s:Bs)(hl:s.length<=1000):vW [.str s]=some (.tup [.slice (FK s).1 [] (As (FK s).2.1),.int .i64 (FK s).2.2]):=by
 refine Am (Qa rfl) ?_;unfold aEP;unfold FK;by_cases h0:s=[]
 ·subst h0;rw[if_pos rfl];simp only[HG,↓C2,HB,simprocAttr]
  all_goals exact Y2
 rw[if_neg h0];have ha:(s=[])=False:=eq_false h0;have i:=O6 (s:=s) (q:=44) O;have xa:=CO (q:=44) s;have ga:=E6 (q:=44) s;have wa:=GC (q:=44) s;generalize splitC 44 s=l at *;have ca:((strsD l).length:Int)=(l.length:Int):=by rw[AR]
 simp only[HG,↓C2,HB,simprocAttr,ha,Ae Mp 42,i,ca];refine BX (n:=l.length) (I:=λj w=>w.s 16= .slice false [] (strsD l)∧w.s 17= .int .i64 ((strsD l).length:Int)∧w.s 18= .int .i64 (j:Int)∧(l.take j).all I9=true∧∃nl t,w.s 4= .slice nl t (As ((l.take j).map Th))∧nl=decide (j=0)∧LG 0 _ 174 w.m w.c nl t) (λj hj ih w g hI=>?_) (λw g hI=>?_) 0 (Ql _) _ _ ⟨rfl,rfl,rfl,rfl,true,[],rfl,rfl,LG.start Xa⟩
 ·obtain⟨ma,ia,da⟩:=w;obtain⟨ta,sa,ra,ja,nl,t,h4,pa,hG⟩:=hI;simp only at ta sa ra h4 hG;rw[ca]at sa;refine Af SH.eq_1 ?_;have ea:((j:Int)<l.length):=by omega
  have oa:=nJ (j:=j);have hw:=wJ (j:=j) O;have ka:(strsD l)[j]?=some (.str (l[j]' O)):=by unfold strsD;rw[QF,Qb O];rfl
  have u:=wa _ (QR (l:=l) (n:=j) O);have ua:(l[j]' O)∈l:=QR _;have qa:As ((l.take (j+1)).map Th)=As ((l.take j).map Th)++[.agg [.str (Th (l[j]' O)).1,.int .u8 (Th (l[j]' O)).2]]:=by
   rw[QJ O,Q5];simp[As,rlD]
  have v:(l.take (j+1)).all I9=I9 (l[j]' O):=by
   rw[QJ O,List.all_append,ja];simp
  have va:(As ((l.take j).map Th)).length=j:=by simp[As];omega
  have na:nl=true->As ((l.take j).map Th)=[]:=by
   grind
  generalize As ((l.take j).map Th)=z at h4 qa va na;generalize (l[j]' O)=x at *;have d:=vG x 58 O;have h:=aGw (BZ x 58).2.1;by_cases c1:(BZ x 58).2.2=true
  ·by_cases c2:(OU (BZ x 58).2.1).2=true
   ·rw[c1]at d;rw[c2]at h;have p:I9 x=true:=by unfold I9;rw[c1,c2];rfl
    have o:(Th x).1=(BZ x 58).1:=rfl;have k:(Th x).2=((OU (BZ x 58).2.1).1:Int):=rfl;rw[o,k]at qa;simp only[HG,↓C2,HB,simprocAttr,ta,sa,ra,h4,ea,oa,Qi,ka,Ae Mp 166,d,Ae Mp 167,h];refine aB ⟨O,rfl,YY⟩ ?_;rw[BF na,←qa];simp only[HG,↓C2,HB,simprocAttr,ra,hw];exact ih _ _ ⟨ta,by rw[ca];exact sa,rfl,by rw[v];exact p,false,_,rfl,U,(by first|exact hG.app O Xa|exact(hG.put O).app O Xa|exact((hG.put O).put O).app O Xa|exact(((hG.put O).put O).put O).app O Xa|exact((((hG.put O).put O).put O).put O).app O Xa|exact(((((hG.put O).put O).put O).put O).put O).app O Xa)⟩
   ·have p:I9 x=false:=by unfold I9;rw[c1];simpa using c2
    have c2:(OU (BZ x 58).2.1).2=false:=by simpa using c2
    rw[c1]at d;rw[c2]at h;have hA:l.all I9=false:=by
     rw[ZK];exact⟨x,ua,by rw[p];decide⟩
    rw[if_pos hA];simp only[HG,↓C2,HB,simprocAttr,ta,sa,ra,h4,ea,oa,Qi,ka,Ae Mp 166,d,Ae Mp 167,h]
    all_goals exact Y2
  ·have c1:(BZ x 58).2.2=false:=by simpa using c1
   have p:I9 x=false:=by unfold I9;rw[c1];rfl
   rw[c1]at d;have hA:l.all I9=false:=by
    rw[ZK];exact⟨x,ua,by rw[p];decide⟩
   rw[if_pos hA];simp only[HG,↓C2,HB,simprocAttr,ta,sa,ra,h4,ea,oa,Qi,ka,Ae Mp 166,d,Ae Mp 167,h]
   all_goals exact Y2
 ·obtain⟨ma,ia,da⟩:=w;obtain⟨ta,sa,ra,ja,nl,t,h4,pa,hG⟩:=hI;simp only at ta sa ra h4 hG;rw[ca]at sa;refine Af SH.eq_1 ?_;have e:decide (l.length=0)=false:=decide_eq_false (by cases l with|nil=>exact absurd rfl ga|cons a b=>simp);rw[Zq (Qh _)]at h4 ja;rw[e]at pa;subst pa;have hA:¬l.all I9=false:=by rw[ja];decide
  rw[if_neg hA];have f:=Tb (nl:=false) (l:=l.map Th) (by rw[Qs];omega) (λr hr=>by
   obtain⟨x,hx,rfl⟩:=Qn.1 hr;have:=wa x hx;have:=uI x 58;exact⟨by show(BZ x 58).1.length<=1000;omega,YK⟩)
  by_cases y:Cg (l.map Th)≠0
  ·rw[if_pos y];have la:(Cg (l.map Th)=0)=False:=eq_false y;simp only[HG,↓C2,HB,simprocAttr,sa,ra,h4,ZB,Ae Mp 168,f,la]
   all_goals exact Y2
  ·rw[if_neg y];have y:=Decidable.not_not.1 y;rw[y]at f;simp only[HG,↓C2,HB,simprocAttr,sa,ra,h4,ZB,Ae Mp 168,f]
   all_goals exact Y2
def C7(a:Ak)(c:Int)(s:Bs):Ak×Int:=
 if c=116 then({a with tk:=s},Bw {a with tk:=s} 116)
 else if c=112 then({a with pa:=s},Bw {a with pa:=s} 112)
 else if c=109 then({a with ot:=s},Bw {a with ot:=s} 109)
 else if c=113 then({a with ot:=s},Bw {a with ot:=s} 113)
 else if c=110 then({a with n:=kQ s},Bw {a with n:=kQ s} 110)
 else if c=99 then({a with cas:=if s=[45]then-1 else kQ s},Dm (decide (s=[45])||decide (0<=kQ s)))
 else if c=102 then({a with fl:=decide (s=[49])},Dm (decide (s=[49])||decide (s=[48])))
 else if c=108 then(if s=[45]then(a,Bw a 108)else({a with nln:=false,ns:=(splitC 44 s).map kQ},Bw {a with nln:=false,ns:=(splitC 44 s).map kQ} 108))
 else if c=100 then(if s=[45]then(a,0)else({a with da:=(Ff s).getD []},Dm ((Ff s).isSome&&decide (s≠[]))))
 else if c=114 then(if s=[45]then(a,0)else if s=[]then(a,4)else({a with nlr:=(FK s).1,rs:=(FK s).2.1},(FK s).2.2))
 else if c=107 then({a with key:=(Ff s).getD []},Dm ((Ff s).isSome&&decide ((((Ff s).getD []).length:Int)=16)))
 else(a,Bw a c)
def aCk(s:Bs)(j:s.length<=400):(FK s).2.1.length<=401∧∀r∈(FK s).2.1,r.1.length<=400∧0<=r.2∧r.2<256:=by
 unfold FK;split
 ·exact⟨Ql _,λr h=>Xc⟩
 split
 ·exact⟨Ql _,λr h=>Xc⟩
 split
 ·exact⟨Ql _,λr h=>Xc⟩
 ·refine⟨by simp only[Qs];have:=CO (q:=44) s;omega,λr h=>?_⟩;obtain⟨x,p,rfl⟩:=Qn.1 h;have:=GC s x p;have:=uI x 58;have:=aSl (BZ x 58).2.1;exact⟨by show(BZ x 58).1.length<=400;omega,YK,by show((OU (BZ x 58).2.1).1:Int)<256;omega⟩
def qU:∀(n:Nat)(s x:Bs),s.length<=n->Ff s=some x->x.length<=s.length
 |0,s,x,h,e=>by
  match s,h with
  |[],_=>cases e;exact Qh _
 |n+1,s,x,h,e=>by
  match s,h,e with
  |[],_,e=>cases e;exact Qh _
  |[_],_,e=>cases e
  |a::b::r,h,e=>
   rw[cI]at e;split at e
   ·cases e
   ·obtain⟨y,o,rfl⟩:=QE.1 e;have:=qU n r y YG o;simp only[Qk];omega
def aBx(s:Bs):((Ff s).getD []).length<=s.length:=by
 cases h:Ff s with
 |none=>exact Ql _
 |some x=>exact qU _ s x (Qh _) h
def VC{a:Ak}(x:Iq a){c:Int}{s:Bs}(j:s.length<=400):Iq (C7 a c s).1:=by
 have u:=aBx s;have y:=aCk s j;have o:=CO (q:=44) s;unfold C7;by_cases b:c=116
 ·rw[if_pos b];exact⟨x.op0,x.op,Xa,x.pa,x.ot,x.ns,x.da,x.rl,x.rs,x.key⟩
 rw[if_neg b];by_cases c1:c=112
 ·rw[if_pos c1];exact⟨x.op0,x.op,x.tk,Xa,x.ot,x.ns,x.da,x.rl,x.rs,x.key⟩
 rw[if_neg c1];by_cases c2:c=109
 ·rw[if_pos c2];exact⟨x.op0,x.op,x.tk,x.pa,Xa,x.ns,x.da,x.rl,x.rs,x.key⟩
 rw[if_neg c2];by_cases t:c=113
 ·rw[if_pos t];exact⟨x.op0,x.op,x.tk,x.pa,Xa,x.ns,x.da,x.rl,x.rs,x.key⟩
 rw[if_neg t];by_cases p:c=110
 ·rw[if_pos p];exact⟨x.op0,x.op,x.tk,x.pa,x.ot,x.ns,x.da,x.rl,x.rs,x.key⟩
 rw[if_neg p];by_cases z:c=99
 ·rw[if_pos z];exact⟨x.op0,x.op,x.tk,x.pa,x.ot,x.ns,x.da,x.rl,x.rs,x.key⟩
 rw[if_neg z];by_cases d:c=102
 ·rw[if_pos d];exact⟨x.op0,x.op,x.tk,x.pa,x.ot,x.ns,x.da,x.rl,x.rs,x.key⟩
 rw[if_neg d];by_cases v:c=108
 ·rw[if_pos v];by_cases e:s=[45]
  ·rw[if_pos e];exact x
  ·rw[if_neg e];exact⟨x.op0,x.op,x.tk,x.pa,x.ot,by simp only[Qs];omega,x.da,x.rl,x.rs,x.key⟩
 rw[if_neg v];by_cases k:c=100
 ·rw[if_pos k];by_cases e:s=[45]
  ·rw[if_pos e];exact x
  ·rw[if_neg e];exact⟨x.op0,x.op,x.tk,x.pa,x.ot,x.ns,Xa,x.rl,x.rs,x.key⟩
 rw[if_neg k];by_cases w:c=114
 ·rw[if_pos w];by_cases e:s=[45]
  ·rw[if_pos e];exact x
  rw[if_neg e];by_cases n:s=[]
  ·rw[if_pos n];exact x
  ·rw[if_neg n];exact⟨x.op0,x.op,x.tk,x.pa,x.ot,x.ns,x.da,Xa,λr i=>⟨by have:=y.2 r i;omega,(y.2 r i).2.1⟩,x.key⟩
 rw[if_neg w];by_cases f:c=107
 ·rw[if_pos f];exact⟨x.op0,x.op,x.tk,x.pa,x.ot,x.ns,x.da,x.rl,x.rs,Xa⟩
 rw[if_neg f];exact x
def Cn:HD:=Aq [(96,Ac vX),(97,Ac aTq),(98,Ac aGJ),(99,Ac aS8),(100,Ac vW),(101,Ac aHE)]
def jS:List D->Option D:=RF Cn aE5 [.cell (some 11) 6,.t 7] 122
def aRu:Kq jS 45:=An (Aj func45) (Aa aDk (Aa aMn (Aa aRg (Aa aWc (Aa aDj (Aa aMt Ad))))))
def aG2(a:Ak)(x:Iq a)(c:Int)(s:Bs)(n:s.length<=400):jS [Ic a,.int .i32 c,.str s]=some (.tup [Ic (C7 a c s).1,.int .i64 (C7 a c s).2]):=by
 refine Am (Qa rfl) ?_;unfold aE5;have h:=jP s;have z:=aGI s O;have p:=aGk s O;have q:=jO s O;have na:=VC x (c:=c) n;unfold C7 at na ⊢;by_cases c1:c=116
 ·subst c1;simp only[reduceIte,QA]at na ⊢;have d:=Iu (c:=116) na;unfold Ic Ia at d ⊢;simp only[HG,↓C2,HB,simprocAttr,Ae Cn 101,d]
  (refine aB (Al ?_) ?_;first|rfl|simp[AK,AA,H3,Ai,Ac])
  simp only[HG,↓C2,HB,simprocAttr]
  all_goals exact Y2
 have n1:(c=116)=False:=eq_false c1;by_cases c2:c=112
 ·subst c2;simp only[reduceIte,QA]at na ⊢;have d:=Iu (c:=112) na;unfold Ic Ia at d ⊢;simp only[HG,↓C2,HB,simprocAttr,Ae Cn 101,d]
  (refine aB (Al ?_) ?_;first|rfl|simp[AK,AA,H3,Ai,Ac])
  simp only[HG,↓C2,HB,simprocAttr]
  all_goals exact Y2
 have n2:(c=112)=False:=eq_false c2;by_cases t:c=109
 ·subst t;simp only[reduceIte,QA]at na ⊢;have d:=Iu (c:=109) na;unfold Ic Ia at d ⊢;simp only[HG,↓C2,HB,simprocAttr,Ae Cn 101,d]
  (refine aB (Al ?_) ?_;first|rfl|simp[AK,AA,H3,Ai,Ac])
  simp only[HG,↓C2,HB,simprocAttr]
  all_goals exact Y2
 have n3:(c=109)=False:=eq_false t;by_cases v:c=113
 ·subst v;simp only[reduceIte,QA]at na ⊢;have d:=Iu (c:=113) na;unfold Ic Ia at d ⊢;simp only[HG,↓C2,HB,simprocAttr,Ae Cn 101,d]
  (refine aB (Al ?_) ?_;first|rfl|simp[AK,AA,H3,Ai,Ac])
  simp only[HG,↓C2,HB,simprocAttr]
  all_goals exact Y2
 have n4:(c=113)=False:=eq_false v;by_cases y:c=110
 ·subst y;simp only[reduceIte,QA]at na ⊢;have d:=Iu (c:=110) na;unfold Ic Ia at d ⊢;simp only[HG,↓C2,HB,simprocAttr,Ae Cn 96,h,Ae Cn 101,d]
  (refine aB (Al ?_) ?_;first|rfl|simp[AK,AA,H3,Ai,Ac])
  simp only[HG,↓C2,HB,simprocAttr]
  all_goals exact Y2
 have n5:(c=110)=False:=eq_false y;by_cases o:c=99
 ·subst o;simp only[reduceIte,QA]at na ⊢;have b:=Ir;unfold Ic Ia;have k:((0:Int)<=-1)=False:=eq_false V;by_cases e:s=[45]
  ·have m:(s=[45])=True:=eq_true e;rw[if_pos e,decide_eq_true e];simp only[HG,↓C2,HB,simprocAttr,Ae Cn 96,h,m,Ae Cn 97,b]
   (refine aB (Al ?_) ?_;first|rfl|simp[AK,AA,H3,Ai,Ac])
   simp only[HG,↓C2,HB,simprocAttr]
   all_goals exact Y2
  ·have m:(s=[45])=False:=eq_false e;rw[if_neg e,decide_eq_false e];simp only[HG,↓C2,HB,simprocAttr,Ae Cn 96,h,m,Ae Cn 97,b]
   (refine aB (Al ?_) ?_;first|rfl|simp[AK,AA,H3,Ai,Ac])
   simp only[HG,↓C2,HB,simprocAttr]
   all_goals exact Y2
 have n6:(c=99)=False:=eq_false o;by_cases c7:c=102
 ·subst c7;simp only[reduceIte,QA]at na ⊢;have b:=Ir;unfold Ic Ia;by_cases e:s=[49]
  ·have m:(s=[49])=True:=eq_true e;rw[decide_eq_true e];simp only[HG,↓C2,HB,simprocAttr,m,Ae Cn 97,b]
   (refine aB (Al ?_) ?_;first|rfl|simp[AK,AA,H3,Ai,Ac])
   simp only[HG,↓C2,HB,simprocAttr]
   all_goals exact Y2
  ·have m:(s=[49])=False:=eq_false e;rw[decide_eq_false e];simp only[HG,↓C2,HB,simprocAttr,m,Ae Cn 97,b]
   (refine aB (Al ?_) ?_;first|rfl|simp[AK,AA,H3,Ai,Ac])
   simp only[HG,↓C2,HB,simprocAttr]
   all_goals exact Y2
 have n7:(c=102)=False:=eq_false c7;by_cases c8:c=108
 ·subst c8;simp only[reduceIte,QA]at na ⊢;by_cases e:s=[45]
  ·have m:(s=[45])=True:=eq_true e;rw[if_pos e]at na ⊢;have d:=Iu (c:=108) x;unfold Ic Ia at d ⊢;simp only[HG,↓C2,HB,simprocAttr,m,Ae Cn 101,d]
   (refine aB (Al ?_) ?_;first|rfl|simp[AK,AA,H3,Ai,Ac])
   simp only[HG,↓C2,HB,simprocAttr]
   all_goals exact Y2
  ·have m:(s=[45])=False:=eq_false e;rw[if_neg e]at na ⊢;have d:=Iu (c:=108) na;unfold Ic Ia at d ⊢;simp only[HG,↓C2,HB,simprocAttr,m,Ae Cn 98,z,Ae Cn 101,d]
   (refine aB (Al ?_) ?_;first|rfl|simp[AK,AA,H3,Ai,Ac])
   simp only[HG,↓C2,HB,simprocAttr]
   all_goals exact Y2
 have n8:(c=108)=False:=eq_false c8;by_cases c9:c=100
 ·subst c9;simp only[reduceIte,QA]at na ⊢;have b:=Ir;by_cases e:s=[45]
  ·have m:(s=[45])=True:=eq_true e;have u:(s=[])=False:=eq_false (by rw[e];decide);have r:Dm true=0:=rfl;rw[if_pos e]at na ⊢;unfold Ic Ia;simp only[HG,↓C2,HB,simprocAttr,m,u,Ae Cn 97,b,r]
   (refine aB (Al ?_) ?_;first|rfl|simp[AK,AA,H3,Ai,Ac])
   simp only[HG,↓C2,HB,simprocAttr]
   all_goals exact Y2
  ·have m:(s=[45])=False:=eq_false e;rw[if_neg e]at na ⊢;unfold Ic Ia;cases hu:(Ff s).isSome with
   |true=>
    rw[hu]at p;simp only[HG,↓C2,HB,simprocAttr,m,Ae Cn 99,p,Ae Cn 97,b]
    (refine aB (Al ?_) ?_;first|rfl|simp[AK,AA,H3,Ai,Ac])
    simp only[HG,↓C2,HB,simprocAttr]
    all_goals exact Y2
   |false=>
    rw[hu]at p;simp only[HG,↓C2,HB,simprocAttr,m,Ae Cn 99,p,Ae Cn 97,b]
    (refine aB (Al ?_) ?_;first|rfl|simp[AK,AA,H3,Ai,Ac])
    simp only[HG,↓C2,HB,simprocAttr]
    all_goals exact Y2
 have n9:(c=100)=False:=eq_false c9;by_cases f:c=114
 ·subst f;simp only[reduceIte,QA]at na ⊢;by_cases e:s=[45]
  ·have m:(s=[45])=True:=eq_true e;rw[if_pos e];unfold Ic Ia;simp only[HG,↓C2,HB,simprocAttr,m]
   all_goals exact Y2
  have m:(s=[45])=False:=eq_false e;rw[if_neg e];by_cases e2:s=[]
  ·have w:(s=[])=True:=eq_true e2;rw[if_pos e2];unfold Ic Ia;simp only[HG,↓C2,HB,simprocAttr,m,w,Ae Cn 100,q]
   all_goals exact Y2
  ·have w:(s=[])=False:=eq_false e2;rw[if_neg e2];unfold Ic Ia;simp only[HG,↓C2,HB,simprocAttr,m,w,Ae Cn 100,q]
   all_goals exact Y2
 have i:(c=114)=False:=eq_false f;by_cases g:c=107
 ·subst g;simp only[reduceIte,QA]at na ⊢;have b:=Ir;unfold Ic Ia;cases hu:(Ff s).isSome with
  |true=>
   rw[hu]at p;simp only[HG,↓C2,HB,simprocAttr,Ae Cn 99,p,Ae Cn 97,b]
   (refine aB (Al ?_) ?_;first|rfl|simp[AK,AA,H3,Ai,Ac])
   simp only[HG,↓C2,HB,simprocAttr]
   all_goals exact Y2
  |false=>
   rw[hu]at p;simp only[HG,↓C2,HB,simprocAttr,Ae Cn 99,p,Ae Cn 97,b]
   (refine aB (Al ?_) ?_;first|rfl|simp[AK,AA,H3,Ai,Ac])
   simp only[HG,↓C2,HB,simprocAttr]
   all_goals exact Y2
 have j:(c=107)=False:=eq_false g;simp only[c1,c2,t,v,y,o,c7,c8,c9,f,g,if_false]at na ⊢;have d:=Iu (c:=c) x;unfold Ic Ia at d ⊢;simp only[HG,↓C2,HB,simprocAttr,n1,n2,n3,n4,n5,n6,n7,n8,n9,i,j,Ae Cn 101,d]
 (refine aB (Al ?_) ?_;first|rfl|simp[AK,AA,H3,Ai,Ac])
 simp only[HG,↓C2,HB,simprocAttr]
 all_goals exact Y2
def akZ:Ak:=⟨0,[],[],[],0,0,false,true,[],[],true,[],[]⟩
def EC:Ak->Bs->List Bs->Ak×Int
 |a,[],_=>(a,0)
 |a,_::_,[]=>(akZ,4)
 |a,c::r,w::ws=>if(C7 a (c.toNat:Int) w).2≠0 then(akZ,(C7 a (c.toNat:Int) w).2)else EC (C7 a (c.toNat:Int) w).1 r ws
def D7(s:Bs):Ak×Int:=
 if 400<s.length then(akZ,5)
 else if opF ((splitC 32 s).getD 0 [])=0 then(akZ,22)
 else if(splitC 32 s).length≠1+(BP (opF ((splitC 32 s).getD 0 []))).length then(akZ,4)
 else EC {akZ with op:=opF ((splitC 32 s).getD 0 [])} (BP (opF ((splitC 32 s).getD 0 []))) ((splitC 32 s).drop 1)
def aC2{S:HD}(l:S 45=some (Ac jS)){ls:Bs}(n:∀c∈ls,c.toNat<128)(xa:ls.length<=100){ws:List Bs}(za:∀w∈ws,w.length<=400)(hl:ws.length=1+ls.length){r:Ak×Int}{Q:Ex->St->Prop}
  (pa:∀x,r.2≠0->r.1=akZ->x.s 3= .int .i64 r.2->x.s 2= .ptr [0] 0->Ag x.m [0] 0 11=some (Ia akZ)->Q .ret x)
  (ga:∀x,r.2=0->x.s 2= .ptr [0] 0->x.s 5= .ptr [13] 0->Ag x.m [0] 0 11=some (Ia akZ)->Ag x.m [13] 0 11=some (Ia r.1)->Q (.exit 0) x):
  ∀(f p:Nat)(b:Ak) x g,ls.length=p+f->EC b (ls.drop p) (ws.drop (p+1))=r->Iq b->x.s 2= .ptr [0] 0->x.s 5= .ptr [13] 0->x.s 37= .itp [30]->x.s 4= .slice false [] (strsD ws)->Ag x.m [0] 0 11=some (Ia akZ)->Ag x.m [13] 0 11=some (Ia b)->x.m [30] 1=some (.it ls p)->
   A9 S [] NT Q x g:=by
 have va:([0]:Id)≠[30]:=V
 have k:([13]:Id)≠[30]:=V
 have o:([0]:Id)≠[13]:=V
 intro f;induction f with
 |zero=>
  intro p b x g hf hr hb v h5 a h4 hm fa ca;refine Af NT.eq_1 ?_;have hp:¬(p<ls.length):=O
  simp only[↓C2,HH,simprocAttr,a,hp,ca,Qv];rw[List.drop_of_length_le O]at hr;simp only[EC]at hr;subst hr;exact ga _ rfl v h5 hm fa
 |succ f ih=>
  intro p b x g hf hr hb v h5 a h4 hm fa ca;refine Af NT.eq_1 ?_;have hp:p<ls.length:=O
  have ka:ls[p]?=some ls[p]:=Qb hp;have ua:ls[p]∈ls:=QR hp;have i:=OY ka (n _ ua);have j:p+1<ws.length:=O
  have t:ws[p+1]∈ws:=QR j;have ta:=za _ t;have d:(strsD ws)[p+1]?=some (.str ws[p+1]):=by unfold strsD;rw[QF,Qb j];rfl
  have hR:=aG2 b hb (ls[p].toNat:Int) ws[p+1] ta;have na:=VC hb (c:=(ls[p].toNat:Int)) ta;have ba:ls.drop p=ls[p]::ls.drop (p+1):=Qo hp;have q:ws.drop (p+1)=ws[p+1]::ws.drop (p+1+1):=Qo j;have e1:IntKind.i64.wrap (1+(p:Int))=((p+1:Nat):Int):=Xi
  have e2:(0:Int)<=((p+1:Nat):Int):=O
  rw[ba,q]at hr;unfold EC at hr;generalize ls[p]=c at *;generalize ws[p+1]=w at *;unfold Ic at hR;generalize C7 b (c.toNat:Int) w=z at *;obtain⟨b',e⟩:=z;simp only at hr hR na;obtain⟨ma,ia,u⟩:=x;simp only at v h5 a h4 hm fa ca;by_cases he:e=0
  ·subst he;rw[if_neg (λh=>h rfl)]at hr;simp only[↓C2,HE,simprocAttr,v,h5,a,h4,hm,fa,i,AG va,AG k,Ab l,hR,B_,B0,AQ,AV,hp,ca,d,e1,e2,Qi,and_self,Qv,QX,Qp]
   (refine aB (Al ?_) ?_;first|rfl|simp[AK,AA,H3,Ai,Ac])
   simp only[↓C2,HE,simprocAttr,v,h5,a,h4,hm,fa,B_,B0,AQ,AV];refine ih (p+1) _ _ _ O hr na v h5 a h4 ?_ ?_ ?_
   ·show Ag ((ia.put [30] 1 [.it ls (p+(Utf8.decode ⟨ls.toArray⟩ p).2)]).put [13] 0 (Ia b')) [0] 0 11=_;rw[AG o,AG va];exact hm
   ·exact AB (AV _)
   ·show HF.put (HF.put ia [30] 1 [.it ls (p+(Utf8.decode ⟨ls.toArray⟩ p).2)]) [13] 0 (Ia b') [30] 1=_;rw[aA V,i];exact DQ
  ·rw[if_pos he]at hr;have y:(e=0)=False:=eq_false he;have hf:∀zs:List D,Cj zs []=some zs:=λ_=>rfl
   have zc:(D.agg [.int .u8 0,.str [],.str [],.str [],.int .i64 0,.int .i64 0,.bool false,.slice true [] [],.str [],.slice true [] [],.str []]).cells=Ia akZ:=rfl;simp only[↓C2,HE,simprocAttr,v,h5,a,h4,hm,fa,i,AG va,AG k,AG o,Ab l,hR,B_,B0,AQ,AV,hp,ca,d,e1,e2,Qi,and_self,Qv,QX,Qp,y,hf,zc]
   (refine aB (Al ?_) ?_;first|rfl|simp[AK,AA,H3,Ai,Ac])
   simp only[↓C2,HE,simprocAttr,v,h5,a,h4,hm,fa,AG va,AG k,AG o,B_,B0,AQ,AV,y,hf,zc,Qp,and_self];subst hr;refine pa _ he rfl ?_ ?_ ?_
   ·rfl
   ·exact v
   ·exact AB (ds:=Ia akZ) rfl
def aDY:∀op:Fin 19,∀c∈BP ((op.val:Nat):Int),c.toNat<128:=Xf
def aDW:∀op:Fin 19,(BP ((op.val:Nat):Int)).length<=10:=Xf
def aDX{op:Int}(b:0<=op)(h:op<=18):(∀c∈BP op,c.toNat<128)∧(BP op).length<=10:=by
 have e:((⟨op.toNat,O⟩:Fin 19).val:Int)=op:=Zc b;have u:=aDY ⟨op.toNat,O⟩;have y:=aDW ⟨op.toNat,O⟩;rw[e]at u y;exact⟨u,y⟩
def aFP{op:Int}(b:0<=op)(h:op<=18):Iq {akZ with op:=op}:=⟨b,Xa,Ql _,Ql _,Ql _,Ql _,Ql _,Ql _,(λr i=>by cases i),Ql _⟩
def Mq:=Aq [(42,Ac D5),(43,Ac aG4),(44,Ac aAX),(45,Ac jS)]
def aHe:=RF Mq aFg [.cell (some 11) 2,.t 3] 58
def aRD:Kq aHe 15:=An (Aj func15) (Aa aI1 (Aa aRv (Aa sB (Aa aRu Ad))))
def kA(s:Bs)(hl:s.length<=1000000):aHe [.str s]=some (.tup [Ic (D7 s).1,.int .i64 (D7 s).2]):=by
 refine Am (Qa rfl) ?_;have c:Mq 45=some (Ac jS):=rfl;unfold aFg;have t:D.cells (.agg (Ia akZ))=Ia akZ:=rfl;unfold D7 Ic;by_cases h4:400<s.length
 ·rw[if_pos h4];have j:((400:Int)<(s.length:Int))=True:=eq_true O;simp only[HG,↓C2,HB,reduceIte,Qt,Qr,Zr,Q8,QQ,reduceCtorEq,QA,Ze,Zs,Zf,j]
  all_goals exact Y2
 rw[if_neg h4];have j:((400:Int)<(s.length:Int))=False:=eq_false O;have i:=O6 (s:=s) (q:=32) O;have p:=E6 (q:=32) s;have wa:=GC (q:=32) s;have xa:=CO (q:=32) s;generalize splitC 32 s=g at *;obtain⟨w0,wr,rfl⟩:∃a b,g=a::b:=by cases g with|nil=>exact absurd rfl p|cons a b=>exact⟨a,b,rfl⟩
 have hg:(w0::wr).getD 0 []=w0:=rfl;rw[hg];have d:=aG3 w0;obtain⟨b1,b2⟩:=aMf w0;have la:=Rq b1 O;obtain⟨f1,f2⟩:=aDX b1 b2;have ka:(strsD (w0::wr))[(0:Int).toNat]?=some (.str w0):=rfl;have k:((strsD (w0::wr)).length:Int)=((w0::wr).length:Int):=by rw[AR]
 have ta:∀w∈w0::wr,w.length<=400:=λw hw=>by have:=wa w hw;omega
 generalize opF w0=op at *;by_cases h0:op=0
 ·subst h0;rw[if_pos rfl];simp only[HG,↓C2,HB,reduceIte,Qt,Qr,Zr,Q8,QQ,reduceCtorEq,QA,Ze,Zs,Zf,j,Ae Mq 42,i,ka,Ae Mq 43,d]
  all_goals exact Y2
 rw[if_neg h0];have x:(op=0)=False:=eq_false h0;have ra:IntKind.i64.wrap (1+((BP op).length:Int))=((1+(BP op).length:Nat):Int):=Xi
 by_cases hn:(w0::wr).length≠1+(BP op).length
 ·rw[if_pos hn];have ja:(((w0::wr).length:Int)=((1+(BP op).length:Nat):Int))=False:=eq_false (λe=>hn O);simp only[HG,↓C2,HB,reduceIte,Qt,Qr,Zr,Q8,QQ,reduceCtorEq,QA,Ze,Zs,Zf,j,Ae Mq 42,i,ka,Ae Mq 43,d,x,Ae Mq 44,la,k,ra,ja]
  all_goals exact Y2
 rw[if_neg hn];have hn:=Decidable.not_not.1 hn;have ja:(((w0::wr).length:Int)=((1+(BP op).length:Nat):Int))=True:=eq_true (by rw[hn]);simp only[HG,↓C2,HB,reduceIte,Qt,Qr,Zr,Q8,QQ,reduceCtorEq,QA,Ze,Zs,Zf,j,Ae Mq 42,i,ka,Ae Mq 43,d,x,Ae Mq 44,la,k,ra,ja];generalize hr:EC {akZ with op:=op} (BP op) ((w0::wr).drop 1)=r;refine aC2 (r:=r) c f1 O ta hn (λv u y o f hm=>?_) (λv u f h5 hm n=>?_) (BP op).length 0 {akZ with op:=op} _ _ O hr (aFP b1 b2) rfl rfl rfl rfl ?_ ?_ ?_
 ·rw[y];simp only[↓C2,HE,simprocAttr,Iw,AW,f,o,hm,QT,B_,B0]
  all_goals exact Y2
 ·rw[u];have z:∀(m:HF)(a:Ak),Ag (m.put [0] 0 (Ia a)) [0] 0 11=some (Ia a):=λm a=>AB (AV a)
  simp only[↓C2,HE,simprocAttr,f,h5,hm,n,B_,B0,AQ,AV,Qp,and_self,Iw,AW,z,QT]
  all_goals exact Y2
 ·simp (disch:=decide)only[AG];exact AB (ds:=Ia akZ) rfl
 ·simp (disch:=decide)only[AG];exact AB (ds:=Ia {akZ with op:=op}) rfl
 ·rfl
def U3:=Aq [(87,Ac (R19 Ta TG)),(88,Ac U8)]
def aG8:=RF U3 aE8 [.cell (some 9) 4] 21
def aRx:Kq aG8 38:=An (Aj func38) (Aa (aY6 aVa aU9) (Aa aQD Ad))
def TrI.trS{t:Tr}{room:Int}(h:TrI t room):TrS t:=⟨by have:=h.len;rw[Tr.cnt_lst]at *;omega,λx p=>⟨Qd (h.key x p) V,Qd (h.val x p) V⟩⟩
def TrI.cnt{t:Tr}{room:Int}(h:TrI t room):t.cnt<=1945:=by have:=h.len;rw[Tr.cnt_lst]at *;exact this
def EW(o:Oc):(My o).length=9:=rfl
def IR{m:HF}{i j o:Nat}{x:List D}{n:Nat}(h:j≠i):Ag (m.put [i] 0 x) [j] o n=Ag m [j] o n:=AG (by simp[h])
def aC1{m:Md}(hm:MZ m){a:Ak}{dec:Kn->Oc}(X:Ip m.vw a dec){R:Kn->Nat}(hR:∀k d,IU k->(dec k).need≠[]->R (A2 k (dec k).need (dec k).li d)<R k){o:Oc}{Q:Ex->St->Prop}
  (pa:∀fa,Ag fa.m [2] 0 9=some (My o)->fa.s 4= .ptr [2] 0->Q .ret fa):
  ∀(f j:Nat)(k:Kn)(x:St) g,KnJ k j->j+f<=20->R k<=f->Vx dec m.tr f k=o->4<=x.c->x.s 2= .ptr [0] 0->x.s 3= .ptr [1] 0->x.s 4= .ptr [2] 0->x.s 5= .ptr [3] 0->
   Ag x.m [0] 0 5=some (It m.vw)->Ag x.m [0] 5 1=some [HV m.tr]->Ag x.m [1] 0 11=some (Ia a)->(∃z,Ag x.m [2] 0 9=some z)->Ag x.m [3] 0 5=some (Im k)->A9 U3 [] NR Q x g:=by
 intro f;induction f with
 |zero=>
  intro j k x g hk hj hr ho hc y h3 h4 h5 m0 n m1 ⟨z,m2⟩ m3;have u:=hk.ok O;have hn:(dec k).need=[]:=by
   by_cases hn:(dec k).need=[]
   ·exact hn
   ·have:=hR k (Ft m.tr []) u hn;omega
  have la:=X.run k u;have v:U3 87=some (Ac (R19 Ta TG)):=rfl;have p:U3 88=some (Ac U8):=rfl;unfold IB Ic at la;refine Af NR.eq_1 ?_;obtain⟨ma,ia,da⟩:=x;simp only at hc y h3 h4 h5 m0 n m1 m2 m3;have zc:(D.agg (My (dec k))).cells=My (dec k):=rfl;have zu:(D.agg (My (dec k))).un1=D.agg (My (dec k)):=rfl;have zn:(D.agg (My (dec k))).un=D.agg (My (dec k)):=rfl;have zd:(D.agg (My (dec k))).data=true:=rfl;have zm:(D.agg (My (dec k))).calm=true:=rfl;have z9:∀{m:HF} {i:Id} {a b c d e f g h j:D},Ag (m.put i 0 [a,b,c,d,e,f,g,h,j]) i 0 9=some [a,b,c,d,e,f,g,h,j]:=AB rfl;have zo:∀{m:HF} {i:Id},Ag (m.put i 0 (My (dec k))) i 0 9=some (My (dec k)):=AB (EW _);have z0:∀{m:HF} {i:Id},m.put i 0 (My (dec k)) i 0=some (.str (dec k).need):=Bf (k:=0) (AB (EW _)) rfl;simp only[It,Im]at la m0 m3;unfold Vx at ho;have ja:((dec k).need=[])=True:=eq_true hn;simp (disch:=first|assumption|omega)only[↓C2,HE,simprocAttr,y,h3,h4,h5,m0,n,m1,m2,m3,Ab v,la,zc,ja,B_,B0,AQ,AV,EW,z9,zo,z0,IR,Qp,and_self,zu,zd,zm,zn];subst ho;exact pa _ (AB (EW _)) h4
 |succ f ih=>
  intro j k x g hk hj hr ho hc y h3 h4 h5 m0 n m1 ⟨z,m2⟩ m3;have u:=hk.ok O;have la:=X.run k u;have v:U3 87=some (Ac (R19 Ta TG)):=rfl;have p:U3 88=some (Ac U8):=rfl;unfold IB Ic at la;refine Af NR.eq_1 ?_;obtain⟨ma,ia,da⟩:=x;simp only at hc y h3 h4 h5 m0 n m1 m2 m3;have zc:(D.agg (My (dec k))).cells=My (dec k):=rfl;have zu:(D.agg (My (dec k))).un1=D.agg (My (dec k)):=rfl;have zn:(D.agg (My (dec k))).un=D.agg (My (dec k)):=rfl;have zd:(D.agg (My (dec k))).data=true:=rfl;have zm:(D.agg (My (dec k))).calm=true:=rfl;have z9:∀{m:HF} {i:Id} {a b c d e f g h j:D},Ag (m.put i 0 [a,b,c,d,e,f,g,h,j]) i 0 9=some [a,b,c,d,e,f,g,h,j]:=AB rfl;have zo:∀{m:HF} {i:Id},Ag (m.put i 0 (My (dec k))) i 0 9=some (My (dec k)):=AB (EW _);have z0:∀{m:HF} {i:Id},m.put i 0 (My (dec k)) i 0=some (.str (dec k).need):=Bf (k:=0) (AB (EW _)) rfl;simp only[It,Im]at la m0 m3;unfold Vx at ho;by_cases hn:(dec k).need=[]
  ·rw[if_pos hn]at ho;have ja:((dec k).need=[])=True:=eq_true hn;simp (disch:=first|assumption|omega)only[↓C2,HE,simprocAttr,y,h3,h4,h5,m0,n,m1,m2,m3,Ab v,la,zc,ja,B_,B0,AQ,AV,EW,z9,zo,z0,IR,Qp,and_self,zu,zd,zm,zn];subst ho;exact pa _ (AB (EW _)) h4
  ·rw[if_neg hn]at ho;have ja:((dec k).need=[])=False:=eq_false hn;have w:=hR k (Ft m.tr (dec k).need) u hn;have ba:=hk.learn hm.tr (dec k).need (dec k).li;have l:=aHk (k:=k) (q:=(dec k).need) (li:=(dec k).li) (r:=[.str (dec k).rep,.slice (dec k).nl [] (ED (dec k).ops)]++It (dec k).vw) (t:=m.tr) ⟨Qd u.es V,Qd u.ls V,rfl,hm.tr.trS,Qd (qW _ _) (Qd hm.tr.len V)⟩;generalize A2 k (dec k).need (dec k).li (Ft m.tr (dec k).need)=k' at ho w ba l;have l:U8 [.agg (Im k),.agg (My (dec k)),.agg [HV m.tr]]=some (.agg (Im k')):=l;simp only[Im]at l;have z5:∀{m:HF} {i:Id} {a b c d e:D},Ag (m.put i 0 [a,b,c,d,e]) i 0 5=some [a,b,c,d,e]:=AB rfl;simp (disch:=first|assumption|omega)only[↓C2,HE,simprocAttr,y,h3,h4,h5,m0,n,m1,m2,m3,Ab v,la,zc,ja,B_,B0,AQ,AV,EW,z9,zo,z0,IR,Qp,and_self,zu,zd,zm,zn,Ab p,l,HP,z5];refine ih (j+1) k' _ _ ba O O ho Xa y h3 h4 h5 ?_ ?_ ?_ ⟨z,?_⟩ ?_
   ·simp (disch:=omega)only[IR];exact m0
   ·simp (disch:=omega)only[IR];exact n
   ·simp (disch:=omega)only[IR];exact m1
   ·simp (disch:=omega)only[IR];exact m2
   ·exact AB rfl
def aG7{m:Md}(j:MZ m){a:Ak}{dec:Kn->Oc}(X:Ip m.vw a dec):aG8 [.agg (Ij m),Ic a]=some (.agg (My (Fq dec m))):=by
 refine Am (Qa rfl) ?_;unfold aE8;unfold Ij Ic;have d:D.cells (.agg (Ij m))=Ij m:=rfl;obtain⟨R,r,x⟩:=X.term;simp only[HG,↓C2,HB,simprocAttr,d];refine aC1 j X x (o:=Fq dec m) (λq i e=>?_) 4 0 kn0 _ _ aMU V (Qd (r _) V) rfl (Qh _) rfl rfl rfl rfl ?_ ?_ ?_ ⟨[.str [],.bool false,.str [],.slice true [] [],.bool false,.int .i64 0,.str [],.slice true [] [],.slice true [] []],?_⟩ ?_
 ·simp only[↓C2,HE,simprocAttr,BC,AW,e,i,QT]
  all_goals exact Y2
 ·simp (disch:=decide)only[AG];exact lT (cs:=Ij m) (n:=7) (AB rfl) V
 ·simp (disch:=decide)only[AG];exact lT (cs:=Ij m) (n:=7) (AB rfl) V
 ·simp (disch:=decide)only[AG];exact AB (AV a)
 ·simp (disch:=decide)only[AG];exact AB rfl
 ·exact AB rfl
def DF:HD:=Aq [(15,Ac aHe),(37,Ac aLp),(38,Ac aG8),(39,Ac aG6),(35,Ac U9)]
def Ed:List D->Option D:=RF DF SJ [.cell (some 7) 4,.t 5] 53
def aDs:Kq Ed 11:=An (Aj func11:Fn QD 11 53 SJ [.cell (some 7) 4,.t 5]) (Aa aRD (Aa aMT (Aa aRx (Aa aRw (Aa VS Ad)))))
def aLr{m:Md}(h:m.room=0)(s:Bs):Ed [.agg (Ij m),.str s]=some (.tup [.agg (Ij m),.str []]):=by
 refine Am (Qa rfl) ?_;unfold SJ;have b:(m.room=0)=True:=eq_true h;simp only[Ij,It,Qe,Qf];simp (disch:=first|assumption|omega)only[HG,↓C2,HB,simprocAttr,HP,b]
 all_goals exact Y2
def wG{m:Md}(h:m.room≠0){s:Bs}{e:Int}(hl:s.length<=1000000)(y:(D7 s).2=e)(d:1<=e∧e<=99):Ed [.agg (Ij m),.str s]=some (.tup [.agg (Ij m),.str (IY (.fail e))]):=by
 refine Am (Qa rfl) ?_;unfold SJ;have o:(m.room=0)=False:=eq_false h;have g:=kA s hl;rw[y]at g;have b:=W3 e d;have z:(e=0)=False:=eq_false O;unfold Ic at g;generalize (D7 s).1=a at g;have q:D.cells (.agg (Ia a))=Ia a:=rfl;have x:∀{m:HF} {i:Id},Ag (m.put i 0 (Ia a)) i 0 11=some (Ia a):=AB (AV a);have c:∀{m:HF} {i:Id} {xs:List D},xs.length=11->(Ag (m.put i 0 xs) i 0 11).isSome=true:=λh=>by rw[Ib h];rfl
 simp only[Ij,It,Qe,Qf];simp (disch:=first|assumption|omega)only[HG,↓C2,HB,simprocAttr,HP,o,Ae DF 15,g,q,B_,B0,AQ,AV,z,Ae DF 37,b]
 (refine aB (Al ?_) ?_;first|rfl|simp[AK,AA,H3,Ai,Ac])
 simp (disch:=first|assumption|omega)only[HG,↓C2,HB,simprocAttr,HP,o,Ae DF 15,g,q,B_,B0,AQ,AV,z,Ae DF 37,b]
 all_goals exact Y2
def rX:∀(l:List Op1){t:Tr},Tr.Ord t.lst->(Bg l t).cnt<=l.length+t.cnt
 |[],t,_=>by simp[Bg]
 |x::r,t,h=>by
  have u:=(eH x h).1;have y:=rX r (DS x h).1;simp only[Bg,Qk];omega
def cX:∀l:List (Bs×Bs),(∀x∈l,x.1.length<=100∧x.2.length<=400)->Tr.sizeL l<=504*l.length
 |[],_=>by simp[Tr.sizeL]
 |x::l,h=>by
  have u:=h x Qj;have:=cX l λy s=>h y (Qg _ s)
  simp only[Tr.sizeL,QH,Zz,Qk]at this ⊢;omega
def UE{v:Vw}{a:Ak}{o:Oc}(h:LH v a o):IF o.ops:=by
 obtain⟨y,_,_,_,⟨_,e,_⟩|⟨_,⟨_,e,_⟩|⟨_,_,e,_⟩⟩⟩:=h
 ·rw[e];exact⟨U,λx p=>XA⟩
 ·rw[e];exact⟨U,λx p=>XA⟩
 ·exact e
def aIg{t:Tr}{room:Int}(h:TrI t room){l:List Op1}(hl:IF l):TrS (Bg l t):=by
 obtain⟨u,y⟩:=Ni l h.ord;have o:=rX l h.ord;have j:=h.cnt;have e:=hl.n;refine⟨O,λx p=>?_⟩;rcases y x p with h6|⟨z,d,_,rfl⟩
 ·exact⟨Qd (h.key x h6) V,Qd (h.val x h6) V⟩
 ·exact⟨Qd (hl.ok z d).1.1 V,Qd (hl.ok z d).1.2.1 V⟩
def Rt{m:Md}(h:m.room≠0){s:Bs}(hl:s.length<=1000000){a:Ak}(c:D7 s=(a,0)){dec:Kn->Oc}(j:MZ m)(X:Ip m.vw a dec):Ed [.agg (Ij m),.str s]=some (.tup [.agg (Ij (Ck m (Fq dec m)).1),.str (Ck m (Fq dec m)).2]):=by
 refine Am (Qa rfl) ?_;unfold SJ;have h0:(m.room=0)=False:=eq_false h;have y:=kA s hl;rw[c]at y;have t:=aG7 j X;obtain⟨w,k,hk,v⟩:=Ow j X;have g:IF (Fq dec m).ops:=UE (by rw[v];exact X.rep k hk (by rw[←v];exact w));have r:=aIg j.tr g;have z:=LI r;have f:=aG5 m.tr (Fq dec m).nl (Fq dec m).ops (Qd g.n V) (λx p=>⟨(g.ok x p).1.1,(g.ok x p).1.2.1⟩) j.tr.ord (by have:=j.tr.cnt;have:=g.n;omega) (by
  have u:=cX m.tr.lst λx p=>⟨j.tr.key x p,j.tr.val x p⟩
  rw[←Tr.wgt_lst]at u;have:=j.tr.len;have:=g.n;omega)
 have b:=W3 7 V;generalize Fq dec m=o at *;have q:(ED o.ops).length=o.ops.length:=Qs ..;unfold Ck;generalize Bg o.ops m.tr=T at *;unfold Ic at y t;simp only[Ij,It,My,Ia,Qe,Qf]at y t ⊢;by_cases d:o.ops=[]
 ·rw[if_neg (λh=>h.1 d)];have c1:((0:Int)<(o.ops.length:Int))=False:=by rw[d];simp
  repeat' (first|(refine aB (Al ?_) ?_;first|rfl|simp[AK,AA,H3,Ai,Ac])|simp (disch:=first|assumption|omega)only[HG,↓C2,HB,simprocAttr,HP,h0,Ae DF 15,y,Ae DF 38,t,Ae DF 39,f,Ae DF 35,z,Ae DF 37,b,q,c1])
 ·have c1:((0:Int)<(o.ops.length:Int))=True:=eq_true (by have:o.ops.length≠0:=λe=>d (Zm.1 e);omega);by_cases hw:m.room<(Tr.weighL T.lst:Int)
  ·rw[if_pos ⟨d,hw⟩];have c2:(m.room<(Tr.weighL T.lst:Int))=True:=eq_true hw
   repeat' (first|(refine aB (Al ?_) ?_;first|rfl|simp[AK,AA,H3,Ai,Ac])|simp (disch:=first|assumption|omega)only[HG,↓C2,HB,simprocAttr,HP,h0,Ae DF 15,y,Ae DF 38,t,Ae DF 39,f,Ae DF 35,z,Ae DF 37,b,q,c1,c2])
  ·rw[if_neg (λh=>hw h.2)];have c2:(m.room<(Tr.weighL T.lst:Int))=False:=eq_false hw
   repeat' (first|(refine aB (Al ?_) ?_;first|rfl|simp[AK,AA,H3,Ai,Ac])|simp (disch:=first|assumption|omega)only[HG,↓C2,HB,simprocAttr,HP,h0,Ae DF 15,y,Ae DF 38,t,Ae DF 39,f,Ae DF 35,z,Ae DF 37,b,q,c1,c2])
def aZq:=Aq []
def aSV:=RF aZq uA [.t 4] 26
def aVW:Kq aSV 197:=An aM3 Ad
def sL{S:HD}{l:List Rl}{nl nl':Bool}{Q:Ex->St->Prop}(hl:l.length<=1000000)(d:∀q,Q (.exit 0) q):
  ∀(f j:Nat)(v:St) g,l.length=j+f->v.s 0= .slice nl [] (As l)->v.s 1= .slice nl' [] (As l)->v.s 12= .int .i64 (l.length:Int)->v.s 13= .int .i64 (j:Int)->A9 S [] NC Q v g
 |0,j,v,g,hf,h0,h1,h12,h13=>by
  refine Af NC.eq_1 ?_;have u:((j:Int)<l.length)=False:=eq_false O;simp only[HG,↓C2,HB,simprocAttr,h12,h13,u];exact d _
 |f+1,j,v,g,hf,h0,h1,h12,h13=>by
  have ih:=sL (S:=S) (nl:=nl) (nl':=nl') hl d f (j+1);refine Af NC.eq_1 ?_;have u:((j:Int)<l.length)=True:=eq_true O;have z:j<l.length:=O
  have p:(As l)[j]?=some (rlD l[j]):=by unfold As;rw[QF,Qb z];rfl
  unfold rlD at p;generalize l[j]=x at p;obtain⟨i,y,c⟩:=v;simp only at h0 h1 h12 h13;have a:=nJ (j:=j);have o:IntKind.i64.wrap ((j:Int)+1)=((j+1:Nat):Int):=H9 O O
  repeat' (first|(refine aB (Al ?_) ?_;first|rfl|simp[AK,AA,H3,Ai,Ac])|simp only[HG,↓C2,HB,simprocAttr,h0,h1,h12,h13,u,a,Qi,p,o,RO,Bn,ME,Qv,QX,beq_self_eq_true,bne_self_eq_false])
  exact ih _ _ O h0 h1 h12 rfl
def aKD(nl nl':Bool)(l:List Rl)(hl:l.length<=1000000):aSV [.slice nl [] (As l),.slice nl' [] (As l)]=some (.bool true):=by
 refine Am (Qa rfl) ?_;unfold uA;have r:=A1 l;simp only[HG,↓C2,HB,simprocAttr,r,bne_self_eq_false];refine sL (nl:=nl) (nl':=nl') hl (λq=>?_) l.length 0 _ _ O rfl rfl rfl rfl;simp only[HG,↓C2,HB,simprocAttr]
 all_goals exact Y2
def aX0:=Aq []
def aGT:=RF aX0 aEX [.t 4] 26
def aRl:Kq aGT 75:=An (Aj func75) Ad
def fA{S:HD}{l:List Mt}{nl nl':Bool}{Q:Ex->St->Prop}(hl:l.length<=1000000)(d:∀q,Q (.exit 0) q):
  ∀(f j:Nat)(v:St) g,l.length=j+f->v.s 0= .slice nl [] (Az l)->v.s 1= .slice nl' [] (Az l)->v.s 12= .int .i64 (l.length:Int)->v.s 13= .int .i64 (j:Int)->A9 S [] NK Q v g
 |0,j,v,g,hf,h0,h1,h12,h13=>by
  refine Af NK.eq_1 ?_;have u:((j:Int)<l.length)=False:=eq_false O;simp only[HG,↓C2,HB,simprocAttr,h12,h13,u];exact d _
 |f+1,j,v,g,hf,h0,h1,h12,h13=>by
  have ih:=fA (S:=S) (nl:=nl) (nl':=nl') hl d f (j+1);refine Af NK.eq_1 ?_;have u:((j:Int)<l.length)=True:=eq_true O;have z:j<l.length:=O
  have p:(Az l)[j]?=some (Ml l[j]):=by unfold Az;rw[QF,Qb z];rfl
  unfold Ml at p;generalize l[j]=x at p;obtain⟨i,y,c⟩:=v;simp only at h0 h1 h12 h13;have a:=nJ (j:=j);have o:IntKind.i64.wrap ((j:Int)+1)=((j+1:Nat):Int):=H9 O O
  repeat' (first|(refine aB (Al ?_) ?_;first|rfl|simp[AK,AA,H3,Ai,Ac])|simp only[HG,↓C2,HB,simprocAttr,h0,h1,h12,h13,u,a,Qi,p,o,RO,Bn,ME,Qv,QX,beq_self_eq_true,bne_self_eq_false])
  exact ih _ _ O h0 h1 h12 rfl
def aGS(nl nl':Bool)(l:List Mt)(hl:l.length<=1000000):aGT [.slice nl [] (Az l),.slice nl' [] (Az l)]=some (.bool true):=by
 refine Am (Qa rfl) ?_;unfold aEX;have r:=AX l;simp only[HG,↓C2,HB,simprocAttr,r,bne_self_eq_false];refine fA (nl:=nl) (nl':=nl') hl (λq=>?_) l.length 0 _ _ O rfl rfl rfl rfl;simp only[HG,↓C2,HB,simprocAttr]
 all_goals exact Y2
def aXI:=Aq [(197,Ac aSV)]
def aS9:=RF aXI uD [.t 4] 8
def aWe:Kq aS9 132:=An aM7 (Aa aVW Ad)
def aKW(nl nl':Bool)(l:List Rl)(hl:l.length<=1000000):aS9 [.slice nl [] (As l),.slice nl' [] (As l)]=some (.bool true):=by
 refine Am (Qa rfl) ?_;unfold uD;have a:=aKD nl nl' l hl;simp only[HG,↓C2,HB,simprocAttr,Ae aXI 197,a]
 all_goals exact Y2
def aPr:=Aq [(132,Ac aS9)]
def N9:=RF aPr oQ [.t 4] 24
def aDm:Kq N9 77:=An (Aj func77) (Aa aWe Ad)
def jQ(k:Tk)(hl:k.2.2.2.length<=1000000):N9 [IW k,IW k]=some (.bool true):=by
 refine Am (Qa rfl) ?_;unfold oQ;have b:=aKW k.2.2.1 k.2.2.1 k.2.2.2 hl;unfold IW;simp only[HG,↓C2,HB,simprocAttr,Ae aPr 132,b,beq_self_eq_true]
 all_goals exact Y2
def aPz:=Aq [(75,Ac aGT)]
def jX:=RF aPz aFb [.t 4] 10
def aDr:Kq jX 32:=An (Aj func32) (Aa aRl Ad)
def jW(nl nl':Bool)(l:List Mt)(hl:l.length<=1000000):jX [.agg [.slice nl [] (Az l)],.agg [.slice nl' [] (Az l)]]=some (.bool true):=by
 refine Am (Qa rfl) ?_;unfold aFb;have a:=aGS nl nl' l hl;simp only[HG,↓C2,HB,simprocAttr,Ae aPz 75,a]
 all_goals exact Y2
def aPs:=Aq [(77,Ac N9)]
def aGR:=RF aPs aEW [.t 6] 32
def aRk:Kq aGR 76:=An (Aj func76) (Aa aDm Ad)
def eZ{S:HD}(r:S 77=some (Ac N9)){l:List Tk}{nl nl':Bool}{Q:Ex->St->Prop}(hl:l.length<=1000000)(u:∀k∈l,k.2.2.2.length<=1000000)(hQ:∀q,Q (.exit 0) q):
  ∀(f j:Nat)(v:St) g,l.length=j+f->v.s 1= .slice nl' [] (Ar l)->v.s 15= .slice nl [] (Ar l)->v.s 2= .fn 77 []->v.s 16= .int .i64 (l.length:Int)->v.s 17= .int .i64 (j:Int)->A9 S [] NJ Q v g
 |0,j,v,g,hf,h1,h15,h2,h16,h17=>by
  refine Af NJ.eq_1 ?_;have d1:((j:Int)<l.length)=False:=eq_false O;simp only[HG,↓C2,HB,simprocAttr,h16,h17,d1];exact hQ _
 |f+1,j,v,g,hf,h1,h15,h2,h16,h17=>by
  have ih:=eZ r (nl:=nl) (nl':=nl') hl u hQ f (j+1);refine Af NJ.eq_1 ?_;have d1:((j:Int)<l.length)=True:=eq_true O;have z:j<l.length:=O
  have p:(Ar l)[j]?=some (IW l[j]):=by unfold Ar;rw[QF,Qb z];rfl
  have d:=jQ l[j] (u _ (QR z));unfold IW at p d;generalize l[j]=x at p d;obtain⟨e,y,t⟩:=v;simp only at h1 h15 h2 h16 h17;have w:=nJ (j:=j);have o:IntKind.i64.wrap ((j:Int)+1)=((j+1:Nat):Int):=H9 O O;have z3:∀{m:HF} {i:Id} {a b c:D},Ag (m.put i 0 [a,b,c]) i 0 3=some [a,b,c]:=AB rfl;have zz:∀{m:HF} {i j:Nat} {x:List D} {n:Nat},j≠i->Ag (m.put [i] 0 x) [j] 0 n=Ag m [j] 0 n:=λh=>AG (by simp[h])
  simp (disch:=first|assumption|omega)only[↓C2,HE,simprocAttr,h1,h15,h2,h16,h17,d1,w,Qi,p,o,z3,zz,Ab r,d,Qp,and_self,Zw,List.take_zero];exact ih _ _ O h1 h15 h2 h16 rfl
def aGQ(nl nl':Bool)(l:List Tk)(hl:l.length<=1000000)(g:∀k∈l,k.2.2.2.length<=1000000):aGR [.slice nl [] (Ar l),.slice nl' [] (Ar l),.fn 77 []]=some (.bool true):=by
 refine Am (Qa rfl) ?_;have a:aPs 77=some (Ac N9):=rfl;unfold aEW;have r:(Ar l).length=l.length:=Qs ..;simp only[HG,↓C2,HB,simprocAttr,r,bne_self_eq_false];refine eZ a (nl:=nl) (nl':=nl') hl g (λq=>?_) l.length 0 _ _ O rfl rfl rfl rfl rfl;simp only[HG,↓C2,HB,simprocAttr]
 all_goals exact Y2
def aPy:=Aq [(76,Ac aGR)]
def jV:=RF aPy aFa [.t 4] 10
def aDq:Kq jV 33:=An (Aj func33) (Aa aRk Ad)
def jU(nl nl':Bool)(l:List Tk)(hl:l.length<=1000000)(g:∀k∈l,k.2.2.2.length<=1000000):jV [.agg [.slice nl [] (Ar l)],.agg [.slice nl' [] (Ar l)]]=some (.bool true):=by
 refine Am (Qa rfl) ?_;unfold aFa;have a:=aGQ nl nl' l hl g;simp only[HG,↓C2,HB,simprocAttr,Ae aPy 76,a]
 all_goals exact Y2
def aGf:=Aq [(32,Ac jX),(33,Ac jV)]
def aG1:=RF aGf aE4 [.t 4] 38
def aRt:Kq aG1 46:=An (Aj func46) (Aa aDr (Aa aDq Ad))
def jR(v:Vw)(n:v.ms.length<=1000000)(hl:v.ks.length<=1000000)(g:∀k∈v.ks,k.2.2.2.length<=1000000):aG1 [IB v,IB v]=some (.bool true):=by
 refine Am (Qa rfl) ?_;unfold aE4;have b:=jW v.nlm v.nlm v.ms n;have i:=jU v.nlt v.nlt v.ks hl g;simp only[IB,It];simp only[HG,↓C2,HB,simprocAttr,Ae aGf 32,b,Ae aGf 33,i,beq_self_eq_true]
 all_goals exact Y2
def jE:=Aq [(46,Ac aG1),(47,Ac wM)]
def S7:=RF jE oT [.t 4] 24
def aRC:Kq S7 16:=An (Aj func16) (Aa aRt (Aa aQF Ad))
def wE(m:Md)(n:m.vw.ms.length<=1000000)(hl:m.vw.ks.length<=1000000)(g:∀k∈m.vw.ks,k.2.2.2.length<=1000000)(v:Tr.Ord m.tr.lst)(d:m.tr.cnt<=400000):S7 [.agg (Ij m),.agg (Ij m)]=some (.bool true):=by
 refine Am (Qa rfl) ?_;unfold oT;have a:=jR m.vw n hl g;have b:=aLw v d;simp only[Ij,IB,It,Qe,Qf]at a ⊢;simp (disch:=first|assumption|omega)only[HG,↓C2,HB,simprocAttr,HP,Ae jE 46,a,Ae jE 47,b,beq_self_eq_true]
 all_goals exact Y2
def aLq(m o:Md)(r:m.vw=o.vw)(i:m.room=o.room)(n:m.vw.ms.length<=1000000)(hl:m.vw.ks.length<=1000000)(g:∀k∈m.vw.ks,k.2.2.2.length<=1000000)(d:m.tr.cnt≠o.tr.cnt):S7 [.agg (Ij m),.agg (Ij o)]=some (.bool false):=by
 refine Am (Qa rfl) ?_;unfold oT;have a:=jR m.vw n hl g;have b:=aLx d;obtain⟨x,z,w⟩:=m;obtain⟨q,e,c⟩:=o;simp only at r i a b;subst r i;simp only[Ij,IB,It,Qe,Qf]at a ⊢;simp (disch:=first|assumption|omega)only[HG,↓C2,HB,simprocAttr,HP,Ae jE 46,a,Ae jE 47,b,beq_self_eq_true]
 all_goals exact Y2
def aPB:=Aq [(35,Ac U9)]
def aHd:=RF aPB aFf [.t 2] 9
def aRB:Kq aHd 17:=An (Aj func17) (Aa VS Ad)
def aHc(m:Md)(i:m.room≠0)(v:TrS m.tr):aHd [.agg (Ij m)]=some (.int .i64 ((Tr.weighL m.tr.lst:Nat):Int)):=by
 refine Am (Qa rfl) ?_;unfold aFf;have z:=LI v;have b:(m.room=0)=False:=eq_false i;simp only[Ij,It,Qe,Qf];simp (disch:=first|assumption|omega)only[HG,↓C2,HB,simprocAttr,HP,Ae aPB 35,z,b]
 all_goals exact Y2
def aX2:=Aq []
def wD:=RF aX2 aFe [.t 2] 5
def aRA:Kq wD 18:=An (Aj func18) Ad
def aHb(m:Md):wD [.agg (Ij m)]=some (.int .i64 m.room):=by
 refine Am (Qa rfl) ?_;unfold aFe;simp only[Ij,It,Qe,Qf];simp (disch:=first|assumption|omega)only[HG,↓C2,HB,simprocAttr,HP]
 all_goals exact Y2
def aPt:=Aq [(26,Ac aK7)]
def Mr:=RF aPt aE0 [.t 4] 15
def aDn:Kq Mr 71:=An (Aj func71) (Aa aMK Ad)
def LF(k:Int)(name:Bs)(hl:name.length<=1000000):Mr [.int .u8 k,.str name]=some (.str (Ao k name 0)):=by
 refine Am (Qa rfl) ?_;unfold aE0;have a:=vO k 0 name hl;simp only[HG,↓C2,HB,simprocAttr,Ae aPt 26,a]
 all_goals exact Y2
def rP:Bs:=[114,111,111,116]
def Io:Bs:=[115,47,114,105,110,103]
def Ik:Bs:=[115,47,109,111,117,110,116,115]
def dI:Bs:=[116,47,114,111,111,116]
def dH:Bs:=AL [[],B7 (A6 [([],63)])]
def ringV:Bs:=List.replicate 17 0
def firstE:Tr:=((Tr.nil.put Io ringV).put Ik []).put dI dH
def N6:=Aq [(80,Ac F48),(81,Ac F35),(82,Ac aAY),(84,Ac RP),(85,Ac jI),(86,Ac aBh),(71,Ac Mr),(83,Ac vY)]
def wB:=RF N6 aE9 [.cell (some 1) 0] 30
def aDo:Kq wB 36:=An (Aj func36) (Aa aUr (Aa aUw (Aa aMP (Aa aMR (Aa aDc (Aa aCx (Aa aDn (Aa aDl Ad))))))))
def S6:wB []=some (.agg [HV firstE]):=by
 refine Am (Qa rfl) ?_;unfold aE9;have f:F48 []=some (.agg [.slice false [] (Ar [Bi])]):=rfl;have z:F35 [.agg [.slice false [] (Ar [Bi])],.str [114,111,111,116]]=some (.tup [IW Bi,.bool true]):=aHs V (λk u=>by rw[Qc.1 u];exact⟨V,λh=>Xc⟩);have z:=(z:F35 _=_);unfold IW Bi at z;have g:aAY [IW Bi]=some (.tup [.str dH,.int .i64 0]):=vP [114,111,111,116] [] false [([],63)] (B7 (A6 [([],63)])) (Cg [([],63)]) (by rw[Ru V (λr i=>by rw[Qc.1 i];decide) V V];rfl) (by rw[bP V (λr i=>by rw[Qc.1 i];decide)];rfl) V Xf;unfold IW Bi at g;have d:jI [.int .i64 1]=some (.int .i64 17):=Rs 1;have a:RP [.str [0],.int .i64 17]=some (.str ringV):=rfl;have b:aBh [.agg [.slice true [] (Az [])]]=some (.str []):=bQ ⟨V,λm n=>by cases n⟩;have k5:Mr [.int .u8 5,.str []]=some (.str Io):=LF 5 [] V;have k4:Mr [.int .u8 4,.str []]=some (.str Ik):=LF 4 [] V;have k3:Mr [.int .u8 3,.str [114,111,111,116]]=some (.str dI):=LF 3 [114,111,111,116] V;have t:=N8 Tr.nil Io ringV V V;have o:=N8 (Tr.nil.put Io ringV) Ik [] V V;have y:=N8 ((Tr.nil.put Io ringV).put Ik []) dI dH V Xf;rw[LM]at t;unfold firstE;generalize (((Tr.nil.put Io ringV).put Ik []).put dI dH)=v at *;generalize ((Tr.nil.put Io ringV).put Ik [])=e at *;generalize (Tr.nil.put Io ringV)=q at *;simp only[Ar,IW,Bi,Az,QH,Zd]at f z b
 repeat' (first|(refine aB (Al ?_) ?_;first|rfl|simp[AK,AA,H3,Ai,Ac])|simp (disch:=first|assumption|omega)only[HG,↓C2,HB,simprocAttr,HP,Ae N6 80,f,Ae N6 81,z,Ae N6 82,g,Ae N6 85,d,Ae N6 84,a,Ae N6 86,b,Ae N6 71,k5,k4,k3,Ae N6 83,t,o,y])
def Wc:Tr.weighL firstE.lst<=300:=Xf
def aD2:21<=Tr.weighL firstE.lst:=Xf
def OM:Tr.Ord firstE.lst:=by
 have b:Tr.Ord Tr.nil.lst:=List.Pairwise.nil;have u:=(DS (1,Io,ringV) b).1;have y:=(DS (1,Ik,[]) u).1;exact(DS (1,dI,dH) y).1
def fY:∀x∈firstE.lst,x.1.length<=100∧x.2.length<=400:=Xf
def tN{room:Int}(h:300<=room)(y:room<=70000):TrI firstE room:=⟨OM,λx p=>(fY x p).1,λx p=>(fY x p).2,by have:=Wc;omega,y⟩
def PZ:TrS firstE:=(tN (room:=300) (Q6 _) V).trS
def mdZ:Md:=⟨⟨false,0,[],true,[],true,[]⟩,.nil,0⟩
def Nr(y:Bs)(room:Int):Md:=⟨aJC y false,firstE,room⟩
def U4:=Aq [(36,Ac wB),(35,Ac U9),(78,Ac F23)]
def Oa:=RF U4 WA [.cell (some 7) 4,.t 5] 26
def aDp:Kq Oa 34:=An (Aj func34) (Aa aDo (Aa VS (Aa aYG Ad)))
def jT(y:Bs)(room:Int)(g:y.length=16)(i:room<=1048576)(k:(Tr.weighL firstE.lst:Int)<=room):Oa [.str y,.int .i64 room]=some (.tup [.agg (Ij (Nr y room)),.int .i64 0]):=by
 refine Am (Qa rfl) ?_;unfold WA;have z:=LI PZ;have d:=S6;have o:F23 [.str y]=some (IB (aJC y false)):=rfl;have c1:((y.length:Int)=16)=True:=eq_true O;have c2:((1048576:Int)<room)=False:=eq_false O;have w:(room<(Tr.weighL firstE.lst:Int))=False:=eq_false O;simp only[Nr,Ij,IB,It,Qe,Qf]at o ⊢;generalize firstE=t at *
 repeat' (first|(refine aB (Al ?_) ?_;first|rfl|simp[AK,AA,H3,Ai,Ac])|simp (disch:=first|assumption|omega)only[HG,↓C2,HB,simprocAttr,HP,Ae U4 36,d,Ae U4 35,z,Ae U4 78,o,c1,c2,w,bne_self_eq_false])
def aA2(y:Bs)(room:Int)(g:y.length≠16):Oa [.str y,.int .i64 room]=some (.tup [.agg (Ij mdZ),.int .i64 2]):=by
 refine Am (Qa rfl) ?_;unfold WA;have c1:((y.length:Int)=16)=False:=eq_false O;simp only[mdZ,Ij,It,Qe,Qf,LM]
 repeat' (first|(refine aB (Al ?_) ?_;first|rfl|simp[AK,AA,H3,Ai,Ac])|simp (disch:=first|assumption|omega)only[HG,↓C2,HB,simprocAttr,HP,c1])
 all_goals exact Y2
def qD(y:Bs)(room:Int)(g:y.length=16)(i:room<=1048576)(k:room<(Tr.weighL firstE.lst:Int)):Oa [.str y,.int .i64 room]=some (.tup [.agg (Ij mdZ),.int .i64 7]):=by
 refine Am (Qa rfl) ?_;unfold WA;have z:=LI PZ;have d:=S6;have c1:((y.length:Int)=16)=True:=eq_true O;have c2:((1048576:Int)<room)=False:=eq_false O;have w:(room<(Tr.weighL firstE.lst:Int))=True:=eq_true O;simp only[mdZ,Ij,It,Qe,Qf,LM];generalize firstE=t at *
 repeat' (first|(refine aB (Al ?_) ?_;first|rfl|simp[AK,AA,H3,Ai,Ac])|simp (disch:=first|assumption|omega)only[HG,↓C2,HB,simprocAttr,HP,Ae U4 36,d,Ae U4 35,z,c1,c2,w])
 all_goals exact Y2
def Nw:Bs:=[48,49,50,51,52,53,54,55,56,57,97,98,99,100,101,102]
def aGg:=Aq [(34,Ac Oa),(11,Ac Ed)]
def wH:=RF aGg aFi [.cell (some 7) 4,.t 5] 38
def aRF:Kq wH 10:=An (Aj func10) (Aa aDp (Aa aDs Ad))
def Um(l:List Bs):Int:=if 40<l.length then 1 else if l.all (λs=>decide (s.length<=500))=true then 0 else 1
def aX4:=Aq []
def kE:=RF aX4 aFk [.t 2] 19
def aRH:Kq kE 8:=An (Aj func8) Ad
def fD{S:HD}{l:List Bs}{nl:Bool}{Q:Ex->St->Prop}(hl:l.length<=40){R:Int}(w:∀q,q.s 2= .int .i64 R->Q .ret q)(t:∀q,R=0->Q (.exit 0) q):
  ∀(f j:Nat)(v:St) g,l.length=j+f->(if(l.drop j).all (λs=>decide (s.length<=500))=true then(0:Int)else 1)=R->v.s 0= .slice nl [] (strsD l)->v.s 3= .int .i64 (j:Int)->A9 S [] NV Q v g
 |0,j,v,g,hf,hR,h0,h3=>by
  refine Af NV.eq_1 ?_;have u:((j:Int)<l.length)=False:=eq_false O;rw[QP O]at hR;have r:=AR l;simp only[HG,↓C2,HB,simprocAttr,h0,h3,u,r];exact t _ hR.symm
 |f+1,j,v,g,hf,hR,h0,h3=>by
  have ih:=fD (S:=S) (nl:=nl) hl w t f (j+1);refine Af NV.eq_1 ?_;have u:((j:Int)<l.length)=True:=eq_true O;have z:j<l.length:=O
  have p:=DK z;have r:=AR l;rw[Qo z,Z2]at hR;generalize l[j]=x at p hR;obtain⟨i,y,c⟩:=v;simp only at h0 h3;have a:=nJ (j:=j);have o:IntKind.i64.wrap ((j:Int)+1)=((j+1:Nat):Int):=H9 O O;by_cases d:x.length<=500
  ·have c1:((500:Int)<(x.length:Int))=False:=eq_false O;rw[decide_eq_true d,Bool.true_and]at hR;simp only[HG,↓C2,HB,simprocAttr,h0,h3,u,r,a,Qi,p,o,c1];exact ih _ _ O hR h0 rfl
  ·have c1:((500:Int)<(x.length:Int))=True:=eq_true O;rw[decide_eq_false d,ZX]at hR;simp only[Zi,if_false]at hR;subst hR;simp only[HG,↓C2,HB,simprocAttr,h0,h3,u,r,a,Qi,p,o,c1];exact w _ rfl
def kD(nl:Bool)(l:List Bs):kE [.slice nl [] (strsD l)]=some (.int .i64 (Um l)):=by
 refine Am (Qa rfl) ?_;unfold aFk;have r:=AR l;unfold Um;by_cases o:40<l.length
 ·rw[if_pos o];have c1:((40:Int)<(l.length:Int))=True:=eq_true O;simp only[HG,↓C2,HB,simprocAttr,r,c1]
  all_goals exact Y2
 ·rw[if_neg o];have c1:((40:Int)<(l.length:Int))=False:=eq_false O;simp only[HG,↓C2,HB,simprocAttr,r,c1];refine fD (nl:=nl) O (R:=if l.all (λs=>decide (s.length<=500))=true then(0:Int)else 1) (λq y=>?_) (λq h=>?_) l.length 0 _ _ O rfl rfl rfl
  ·simp only[HG,↓C2,HB,simprocAttr,y]
   all_goals exact Y2
  ·rw[h];simp only[HG,↓C2,HB,simprocAttr]
   all_goals exact Y2
def aJR(b:Bool):0<=Dm b∧Dm b<=99:=by cases b<;>decide
def aIQ(s:Bs):0<=(FK s).2.2∧(FK s).2.2<=99:=by
 have:=VJ ((splitC 44 s).map Th);unfold FK
 repeat' split
 all_goals simp only
 all_goals omega
def aIP(s:Bs)(h:(FK s).1=true):(FK s).2.1=[]:=by
 unfold FK at h ⊢
 repeat' split
 all_goals first|rfl|(simp_all;done)
def aDA{α:Type}(P:α->Prop){c:Prop}[Decidable c]{x y:α}(u:P x)(f:P y):P (if c then x else y):=by
 split
 ·exact u
 ·exact f
def aCd(a:Ak)(c:Int)(s:Bs):0<=(C7 a c s).2∧(C7 a c s).2<=99:=by
 unfold C7
 repeat' refine aDA (λz:Ak×Int=>0<=z.2∧z.2<=99) ?_ ?_
 all_goals dsimp only
 all_goals with_reducible first|exact UN _ _|exact aJR _|exact aIQ _|exact⟨V,V⟩
def aQr{a:Ak}(x:IV a){c:Int}{s:Bs}(j:s.length<=400):IV (C7 a c s).1:=by
 have y:=aCk s j;have o:=aIP s;have h:G8 (C7 a c s).1.rs∧((C7 a c s).1.nlr=true->(C7 a c s).1.rs=[]):=by
  unfold C7
  repeat' refine aDA (λz:Ak×Int=>G8 z.1.rs∧(z.1.nlr=true->z.1.rs=[])) ?_ ?_
  all_goals first|exact⟨x.cap,x.nlr⟩|exact⟨λr i=>(y.2 r i).2,o⟩
 exact⟨VC x.ok j,h.1,h.2⟩
def aFJ{op:Int}(b:0<=op)(h:op<=18):IV {akZ with op:=op}:={ok:=aFP b h,cap:=λr i=>(by cases i),nlr:=λ_=>rfl}
def iT:IV akZ:=aFJ (op:=0) V V
def rS:∀(ls:Bs)(o:List Bs){a:Ak},IV a->(∀w∈o,w.length<=400)->IV (EC a ls o).1∧0<=(EC a ls o).2∧(EC a ls o).2<=99
 |[],_,a,ha,_=>⟨ha,XY,XY⟩
 |_::_,[],a,_,_=>⟨iT,XY,XY⟩
 |c::ls,w::o,a,ha,hw=>by
  have u:=aCd a (c.toNat:Int) w;simp only[EC];split
  ·exact⟨iT,u.1,u.2⟩
  ·exact rS ls o (aQr ha (hw w Qj)) λx p=>hw x (Qg _ p)
def uV(s:Bs):IV (D7 s).1∧0<=(D7 s).2∧(D7 s).2<=99:=by
 unfold D7;split
 ·exact⟨iT,V,V⟩
 split
 ·exact⟨iT,V,V⟩
 split
 ·exact⟨iT,V,V⟩
 ·have h:=aMf ((splitC 32 s).getD 0 []);refine rS _ _ (aFJ h.1 h.2) λw k=>?_
  have:=GC s w (Q1 k);omega
structure aPl (m:Md) (s:Bs) (m':Md) (y:Ry):Prop where
 run:Ed [.agg (Ij m),.str s]=some (.tup [.agg (Ij m'),.str (IY y)])
 e:MY y=0
 n:ryN y
 md:MZ m'
 room:m'.room=m.room
 key:m'.vw.key=m.vw.key
 fl:(∃e,y= .fail e)->m'=m
 bad:(D7 s).2≠0->y= .fail (D7 s).2∧m'=m
 ro:((D7 s).1.op=1∨(D7 s).1.op=9∨(D7 s).1.op=14∨(D7 s).1.op=17)->m'=m
def MZ.same{m:Md}(h:MZ m):S7 [.agg (Ij m),.agg (Ij m)]=some (.bool true):=
 wE m (Qd h.vw.ml V) (Qd h.vw.kl V) (λk g=>(h.vw.ok.kp k g).1.1) h.tr.ord (Qd h.tr.cnt V)
def yQ:TF [Bi]:=by
 refine⟨λi j u y=>by simp at y;omega,⟨λs=>if s=[]then 0 else 1,⟨λt v=>?_,λt v=>?_,List.pairwise_singleton _ _⟩,rfl⟩,λt v=>?_,λt v=>?_,λt v _=>?_,λt v _=>?_⟩
 ·rw[Qc.1 v];decide
 ·rw[Qc.1 v];decide
 ·rw[Qc.1 v];decide
 ·rw[Qc.1 v];exact .inl rfl
 ·rw[Qc.1 v];rfl
 ·rw[Qc.1 v];rfl
def aRM(t:Bs):Ih (aJC t false):=
 ⟨⟨Ql _,λm n=>(by cases n),Qa rfl,λk g=>(by rw[Qc.1 g];exact⟨⟨V,λh=>Xc⟩,V,λr q=>(by rw[Qc.1 q];decide),λr q=>(by rw[Qc.1 q];decide)⟩)⟩,yQ,λi j u y=>absurd y (by show ¬j<0;omega),λ_=>rfl,⟨Q6 1,(by show(1:Int)<=6;decide)⟩,Qa rfl,Ql _,λm n=>(by cases n)⟩
def aMy{r:Int}(b:0<=r)(u:r<65536):MZ (Nr Nw (300+r)):=⟨aRM _,tN (by show(300:Int)<=300+r;omega) (by show(300:Int)+r<=70000;omega)⟩
namespace Tr
def GZ{l:List (Kt×Kt)}(h:Ord l){q v:Kt}:PI l q=some v↔(q,v)∈l:=⟨getL_some,getL_mem h⟩
def aJG{l:List (Kt×Kt)}{k v:Kt}{x:Kt×Kt}:x∈V7 l k v↔x=(k,v)∨(x∈l∧x.1≠k):=by
 unfold V7;rw[Qu,Qw,QN,QN];constructor
 ·rintro(⟨h1,h2⟩|h|⟨h1,h2⟩)
  ·exact .inr ⟨h1,λe=>by rw[e,CR]at h2;cases h2⟩
  ·exact .inl h
  ·exact .inr ⟨h1,λe=>by rw[e,CR]at h2;cases h2⟩
 ·rintro(h|⟨h1,h2⟩)
  ·exact .inr (.inl h)
  ·rcases eU x.1 k with c|c|c
   ·exact .inl ⟨h1,c⟩
   ·exact absurd c h2
   ·exact .inr (.inr ⟨h1,c⟩)
def VP{α:Type}{a b:Option α}(h:∀v,a=some v↔b=some v):a=b:=by
 cases b with
 |none=>cases a with
  |none=>rfl
  |some x=>exact absurd ((h x).1 rfl) U
 |some y=>exact(h y).2 rfl
def get_put{t:Tr}(h:Ord t.lst)(k v q:Kt):(t.put k v).get q=if q=k then some v else t.get q:=by
 have y:Ord (t.put k v).lst:=by rw[lst_put k v t h];exact ins_ord h k v
 refine VP λw=>?_
 rw[get_lst q _ y,GZ y,lst_put k v t h,aJG];by_cases e:q=k
 ·subst e;rw[if_pos rfl];constructor
  ·rintro(o|⟨_,o⟩)
   ·cases o;rfl
   ·exact absurd rfl o
  ·intro o;cases o;exact .inl rfl
 ·rw[if_neg e,get_lst q _ h,GZ h];constructor
  ·rintro(o|⟨o,_⟩)
   ·cases o;exact absurd rfl e
   ·exact o
  ·intro o;exact .inr ⟨o,e⟩
def get_del{t:Tr}(h:Ord t.lst)(k q:Kt):(delT k t).get q=if q=k then none else t.get q:=by
 have y:Ord (delT k t).lst:=by rw[lst_del k t h];exact ord_sub Zb h
 refine VP λw=>?_
 rw[get_lst q _ y,GZ y,lst_del k t h,QN];by_cases e:q=k
 ·subst e;rw[if_pos rfl];simp
 ·rw[if_neg e,get_lst q _ h,GZ h];simp[e]
end Tr
def rY(k v:Bs)(t:Tr):DT (1,k,v) t=t.put k v:=if_pos rfl
def PU(k v:Bs)(t:Tr):DT (2,k,v) t=Tr.delT k t:=rfl
def GY{f:Int->Bs}:∀(ns:List Int){t:Tr},Tr.Ord t.lst->∀{q:Bs},(∀n∈ns,f n≠q)->(Bg (ns.map λn=>((2:Int),f n,([]:Bs))) t).get q=t.get q
 |[],t,h,q,hq=>rfl
 |n::ns,t,h,q,hq=>by
  show(Bg (ns.map _) (DT (2,f n,[]) t)).get q=_;rw[PU,GY ns (by rw[←PU _ []];exact(DS _ h).1) λx p=>hq x (Qg _ p),Tr.get_del h,if_neg (λe=>hq n Qj e.symm)]
def Nj:∀(a b:List Op1)(t:Tr),Bg (a++b) t=Bg b (Bg a t)
 |[],b,t=>rfl
 |x::a,b,t=>Nj a b _
def aIU{l:List Op1}{t:Tr}(h:Tr.Ord t.lst):Tr.Ord (Bg l t).lst:=(Ni l h).1
def Dz(x y:UInt8)(p q:Bs):A7 (y::q) (x::p)=(decide (y=x)&&A7 q p):=by
 unfold A7;simp only[Qk,Zw,QO,Bool.decide_and]
def aDP(q:Bs):A7 q []=true:=XE
def OH(x:UInt8)(p:Bs):A7 [] (x::p)=false:=XE
namespace Tr
def lt_cons(x y:UInt8)(p q:Kt):H_ (y::q) (x::p)=(decide (y<x)||(y==x&&H_ q p)):=rfl
def aCP(q:Kt):H_ q []=false:=by cases q<;>rfl
def VZ(x:UInt8)(p:Kt):H_ [] (x::p)=true:=rfl
def SQ:∀{p:Kt},beyB p=none->∀q,H_ q p=!A7 q p
 |[],h,q=>by rw[aCP,aDP];rfl
 |x::p,h,q=>by
  unfold beyB at h;cases hb:beyB p with
  |some e=>rw[hb]at h;cases h
  |none=>
   rw[hb]at h;simp only at h;split at h
   ·cases h
   ·rename_i w;have ih:=SQ hb;cases q with
    |nil=>rw[VZ,OH];rfl
    |cons y q=>
     rw[lt_cons,Dz,ih q];have r:x=255:=by
      have u:¬x.toNat<255:=λh=>w (UInt8.lt_iff_toNat_lt.2 h)
      have f:=x.toNat_lt;exact UInt8.toNat_inj.1 (by show x.toNat=255;omega)
     subst r;have s:=y.toNat_lt;by_cases e:y=255
     ·subst e;simp
     ·have:y<255:=UInt8.lt_iff_toNat_lt.2 (by
       have:y.toNat≠255:=λh=>e (UInt8.toNat_inj.1 h)
       show y.toNat<255;omega)
      simp[this,e]
def iJ:∀{p e:Kt},beyB p=some e->∀q,(!H_ q p&&H_ q e)=A7 q p
 |[],e,h,q=>Xc
 |x::p,e,h,q=>by
  unfold beyB at h;cases hb:beyB p with
  |some n=>
   rw[hb]at h;simp only[Qy]at h;subst h;have ih:=iJ hb;cases q with
   |nil=>rw[VZ,OH];rfl
   |cons y q=>
    rw[lt_cons,lt_cons,Dz,←ih q];by_cases e:y=x
    ·subst e;have:¬(y<y):=λh=>absurd (UInt8.lt_iff_toNat_lt.1 h) (ZC _)
     simp[this]
    ·have n:(y==x)=false:=by simpa using e
     rw[n,decide_eq_false e];by_cases h:y<x<;>simp[h]
  |none=>
   rw[hb]at h;simp only at h;split at h
   ·rename_i w;simp only[Qy]at h;subst h;have ih:=SQ hb;cases q with
    |nil=>rw[VZ,OH];rfl
    |cons y q=>
     rw[lt_cons,lt_cons,Dz,ih q,aCP,Bool.and_false,ZD];have r:=UInt8.lt_iff_toNat_lt.1 w;have k:(x+1).toNat=x.toNat+1:=by
      rw[UInt8.toNat_add];have:(255:UInt8).toNat=255:=rfl;have:(1:UInt8).toNat=1:=rfl;omega
     have d:(y<x+1)↔(y<x∨y=x):=by
      rw[UInt8.lt_iff_toNat_lt,UInt8.lt_iff_toNat_lt,k];constructor
      ·intro h;rcases Z4 y.toNat x.toNat with h2|h2
       ·exact .inl h2
       ·exact .inr (UInt8.toNat_inj.1 O)
      ·rintro(h|h)
       ·omega
       ·subst h;omega
     by_cases e:y=x
     ·subst e;have u:¬(y<y):=λh=>absurd (UInt8.lt_iff_toNat_lt.1 h) (ZC _)
      simp[u,d.2 (.inr rfl)]
     ·have n:(y==x)=false:=by simpa using e
      rw[n,decide_eq_false e];by_cases h:y<x
      ·simp[h]
      ·have:¬(y<x+1):=λh2=>(d.1 h2).elim h e
       simp[this]
   ·cases h
def aEa{l:List (Kt×Kt)}(h:Ord l)(p:Kt){x:Kt×Kt}:x∈US p l↔x∈l∧A7 x.1 p=false:=by
 unfold US;rw[Qu,QN];cases hb:beyB p with
 |none=>
  have:=SQ hb x.1;simp only[ZP,or_false];rw[this];simp
 |some e=>
  have:=iJ hb x.1;simp only[QN,Zk];rw[←this];have s:H_ x.1 p=true->H_ x.1 p=true:=id;cases h1:H_ x.1 p<;>cases h2:H_ x.1 e<;>simp_all
def get_drop{t:Tr}(h:Ord t.lst)(p q:Kt):(dropT p t).get q=if A7 q p=true then none else t.get q:=by
 have y:Ord (dropT p t).lst:=by rw[lst_drop p t h];exact ord_sub (drop_sub p h) h
 refine VP λw=>?_
 rw[get_lst q _ y,GZ y,lst_drop p t h,aEa h];cases e:A7 q p with
 |true=>simp[e]
 |false=>
  rw[if_neg V,get_lst q _ h,GZ h];simp[e]
end Tr
def yD(x:Op1)(q:Bs)(o:Option Bs):Option Bs:=if x.1=1 then(if q=x.2.1 then some x.2.2 else o)else if x.1=2 then(if q=x.2.1 then none else o)else if x.1=3 then(if A7 q x.2.1=true then none else o)else o
def R5:List Op1->Bs->Option Bs->Option Bs
 |[],_,o=>o
 |x::l,q,o=>R5 l q (yD x q o)
def aRV{t:Tr}(h:Tr.Ord t.lst)(x:Op1)(q:Bs):(DT x t).get q=yD x q (t.get q):=by
 unfold DT yD;split
 ·exact Tr.get_put h _ _ _
 split
 ·exact Tr.get_del h _ _
 split
 ·exact Tr.get_drop h _ _
 ·rfl
def Hr:∀(l:List Op1){t:Tr},Tr.Ord t.lst->∀(q:Bs),(Bg l t).get q=R5 l q (t.get q)
 |[],t,h,q=>rfl
 |x::l,t,h,q=>by
  show(Bg l (DT x t)).get q=R5 l q (yD x q (t.get q));rw[Hr l (DS x h).1 q,aRV h]
def Tj(x:Op1)(q:Bs):Prop:=if x.1=3 then A7 q x.2.1=false else q≠x.2.1
def aIX{x:Op1}{q:Bs}(h:Tj x q)(o:Option Bs):yD x q o=o:=by
 unfold Tj at h;unfold yD;by_cases r:x.1=3
 ·rw[if_pos r]at h;rw[if_neg O,if_neg O,if_pos r,h];rfl
 ·rw[if_neg r]at h;rw[if_neg r,if_neg h,if_neg h];simp
def eE:∀{l:List Op1} {q:Bs},(∀x∈l,Tj x q)->∀o,R5 l q o=o
 |[],q,h,o=>rfl
 |x::l,q,h,o=>by
  show R5 l q (yD x q o)=o;rw[aIX (h x Qj)];exact eE (λy s=>h y (Qg _ s)) o
def L1{l:List Op1}{t:Tr}(h:Tr.Ord t.lst){q:Bs}(v:∀x∈l,Tj x q):(Bg l t).get q=t.get q:=by
 rw[Hr l h,eE v]
def GK{l:List Int}{p:Nat}{n:Int}(h:l[p]?=some n)(b:0<=n)(u:n<256):Bz (OV l) p 0=(n,p+1,0):=by
 obtain⟨g,c⟩:=Q3.1 h;have t:p<(OV l).length:=by unfold OV;rw[Qs];exact g
 unfold Bz;rw[if_neg (λh=>h rfl),dif_pos t];have e:(OV l)[p]=UInt8.ofNat n.toNat:=by simp[OV,c]
 rw[e,UInt8.toNat_ofNat'];have:((n.toNat % 2 ^ 8:Nat):Int)=n:=O
 rw[this]
def aKc(l:List Int):(OV l).length=l.length:=by unfold OV;rw[Qs]
def aJO(g d:Bool):0<=bits .or .u8 (D_ g) (IntKind.u8.wrap (D_ d*2))∧bits .or .u8 (D_ g) (IntKind.u8.wrap (D_ d*2))<256∧decide (3<bits .or .u8 (D_ g) (IntKind.u8.wrap (D_ d*2)))=false∧decide (bits .and .i64 (bits .or .u8 (D_ g) (IntKind.u8.wrap (D_ d*2))) 1≠0)=g∧decide (bits .and .i64 (bits .or .u8 (D_ g) (IntKind.u8.wrap (D_ d*2))) 2≠0)=d:=by
 cases g<;>cases d<;>decide+kernel
def TN:∀(rs:List Rw){l pre:List Int},pre++FY rs=l->(∀x∈rs,0<=x.1∧x.1<256)->IQ (OV l) rs.length pre.length 0=(rs,false,l.length,0)
 |[],l,pre,h,_=>by
  rw[←h];simp[IQ,FY]
 |x::rs,l,pre,h,hb=>by
  obtain⟨b,k⟩:=hb x Qj;obtain⟨j,w,c,f,e⟩:=aJO x.2.1 x.2.2;have m:l[pre.length]?=some x.1:=by
   rw[←h,QL (Qh _),Nat.sub_self];show some (IntKind.u8.wrap x.1)=_;rw[w8 b k]
  have n:l[pre.length+1]?=some (bits .or .u8 (D_ x.2.1) (IntKind.u8.wrap (D_ x.2.2*2))):=by
   rw[←h,QL O,show pre.length+1-pre.length=1 by omega];rfl
  have n1:=GK m b k;have n2:=GK n j w;have hl:(pre++lQ x)++FY rs=l:=by rw[←h,QG];rfl
  have ih:=TN rs hl λy s=>hb y (Qg _ s)
  have q:(pre++lQ x).length=pre.length+1+1:=by rw[QB];rfl
  rw[q]at ih;show IQ (OV l) (rs.length+1) pre.length 0=_;unfold IQ;simp only[n1,n2,ih,c,f,e,ZD]
def cG{s:Sc}(h:Tw s):BB (B1 s)=({s with nl:=decide (s.rs=[])},0):=by
 obtain⟨_,u,v,y,j,n⟩:=L4 h.bad;have hl:s.rs.length<=6:=h.len;have r:∀x∈s.rs,0<=x.1∧x.1<256:=λx p=>by have:=DO h x p;omega
 have e:B1 s=OV ([s.mx,D_ s.cas,s.la,(s.rs.length:Int)]++FY s.rs):=by
  unfold B1;rw[if_neg (by rw[h.bad];decide),w8 u.1 O,w8 v.1 O,w8 (x:=(s.rs.length:Int)) O O]
 have w:(B1 s).length=4+2*s.rs.length:=by
  rw[e,aKc,QB,rowsI_len];rfl
 have d:0<=D_ s.cas∧D_ s.cas<256∧decide (D_ s.cas=1)=s.cas∧decide (1<D_ s.cas)=false:=by cases s.cas<;>decide
 have n1:MA (B1 s)=(s.mx,1,0):=by unfold MA;rw[e];exact GK rfl u.1 O
 have n2:Ma (B1 s)=(D_ s.cas,2,0):=by unfold Ma;rw[n1,e];exact GK rfl d.1 d.2.1
 have a:Mz (B1 s)=(s.la,3,0):=by unfold Mz;rw[n2,e];exact GK rfl v.1 O
 have q:GM (B1 s)=((s.rs.length:Int),4,0):=by unfold GM;rw[a,e];exact GK rfl O O
 have k:FI (B1 s)=(s.rs,false,4+2*s.rs.length,0):=by
  unfold FI;rw[q];simp only[Qi];have:=TN s.rs (l:=[s.mx,D_ s.cas,s.la,(s.rs.length:Int)]++FY s.rs) (pre:=[s.mx,D_ s.cas,s.la,(s.rs.length:Int)]) rfl r;rw[←e]at this;rw[show([s.mx,D_ s.cas,s.la,(s.rs.length:Int)]:List Int).length=4 from rfl]at this;rw[this];have t:([s.mx,D_ s.cas,s.la,(s.rs.length:Int)]++FY s.rs).length=4+2*s.rs.length:=by
   rw[QB,rowsI_len];rfl
  rw[t]
 have g:Vc (B1 s)={s with nl:=decide (s.rs=[])}:=by
  unfold Vc;rw[n1,n2,a,q,k];simp only[Qi,d.2.2.1];have:decide (s.rs.length=0)=decide (s.rs=[]):=by
   by_cases c:s.rs=[]
   ·rw[c];rfl
   ·rw[decide_eq_false c,decide_eq_false (λc2=>c (Zm.1 c2))]
  rw[this]
 have f:B5 {s with nl:=decide (s.rs=[])} 6=false:=h.bad;have i:zP (B1 s).length (4+2*s.rs.length) 0=0:=by
  unfold zP;rw[if_neg (λh=>h rfl),w,if_neg (ZC _)]
 unfold BB;rw[k];simp only[i,n2,d.2.2.2,g,f,ZD];rfl
structure aX5 (v:Vw) (p:Bs):Prop where
 se:v.se=false
 fd:AY v.ks rP=true
 mt:A5 v.ms p≠-1
def Gj(t:Tr)(p:Bs):Bs×Bool×Bool:=((t.get (Ao 1 p 0)).getD [],(t.get (Ao 1 p 0)).isSome,true)
def aZa(q:Bs):CU kn0 q=([],false,false):=rfl
def zN(k:Kn)(t:Tr)(q m:Bs):CU (A2 k q false (Ft t q)) m=if q=m then((t.get q).getD [],(t.get q).isSome,true)else CU k m:=by
 rw[fG];exact gI k q _ _ m
def sR{k n:Int}{name:Bs}{z r:Int}{a:Bs}(h:Bx k name n=0)(c:Bx z a r=0)(e:Ao k name n=Ao z a r):k=z∧name=a∧n=r:=by
 have u:=BH h;rw[e,BH c]at u;simp only[ZA]at u;exact⟨u.1.symm,u.2.1.symm,u.2.2.symm⟩
def EG{s p:Bs}:A7 s p=true↔∃r,s=p++r:=by
 unfold A7;rw[decide_eq_true_eq];constructor
 ·intro h;exact⟨s.drop p.length,by conv=>lhs;rw[←Qx p.length s,h]⟩
 ·rintro⟨r,rfl⟩;simp
def Uy{q:Bs}(h:Bx (Ax q).1 (Ax q).2.1 (Ax q).2.2=0):Ao (Ax q).1 (Ax q).2.1 (Ax q).2.2=q:=by
 unfold Ao;rw[if_neg (λe=>e h)];unfold Ax at h ⊢;by_cases u:q=[115,47,109,111,117,110,116,115]
 ·subst u;rfl
 rw[if_neg u]at h ⊢;by_cases y:q=[115,47,114,105,110,103]
 ·subst y;rfl
 rw[if_neg y]at h ⊢;by_cases o:A7 q [109,47]=true
 ·rw[if_pos o];obtain⟨r,rfl⟩:=EG.1 o;rfl
 rw[if_neg o]at h ⊢;by_cases j:A7 q [116,47]=true
 ·rw[if_pos j];obtain⟨r,rfl⟩:=EG.1 j;rfl
 rw[if_neg j]at h ⊢;by_cases p:A7 q [100,47]=true∧2<(q.drop 2).length∧(q.drop 2).getD ((q.drop 2).length-2) 0=0
 ·rw[if_pos p]at h ⊢;obtain⟨v,m,w⟩:=p;obtain⟨r,rfl⟩:=EG.1 v;have e:([100,47]++r:Bs).drop 2=r:=rfl;rw[e]at h m w ⊢;simp only;rw[if_neg V,if_pos V];have f:=(r.getD (r.length-1) 0).toNat_lt;have k:UInt8.ofNat (IntKind.u8.wrap (((r.getD (r.length-1) 0).toNat:Nat):Int)).toNat=r.getD (r.length-1) 0:=by
   rw[w8 O O,Qi];exact UInt8.ofNat_toNat
  rw[k,QG];congr 1;have d1:r.drop (r.length-2)=[r.getD (r.length-2) 0,r.getD (r.length-1) 0]:=by
   have c:r.length-2<r.length:=O
   have s:r.length-2+1<r.length:=O
   rw[Qo c,Qo s,QP O];simp only[ZN,Qb c,QC];have a:r.length-1<r.length:=O
   simp only[Qb a,QC,show r.length-2+1=r.length-1 by omega]
  rw[w]at d1
  conv=>rhs;rw[←Qx (r.length-2) r,d1]
 ·rw[if_neg p]at h;exact absurd h V
def yF{s:Bs}{i:Nat}(hi:i<s.length)(h:Ej (Ea s i).1=true):1<=(Ea s i).2∧∀j,i<=j->j<i+(Ea s i).2->45<=H6 s j∧H6 s j≠58:=by
 grind [Py,E5,Ea,Ej]
def RL{s:Bs}:∀(f p n:Nat),s.length<=p+f->DM s f p n≠4->∀j,p<=j->j<s.length->45<=H6 s j∧H6 s j≠58
 |0,p,n,hf,h,j,h1,h2=>O
 |f+1,p,n,hf,h,j,h1,h2=>by
  unfold DM at h;rw[if_pos O]at h;split at h
  ·rename_i o;obtain⟨k,d⟩:=yF O o;by_cases z:j<p+(Ea s p).2
   ·exact d j h1 z
   ·exact RL f _ _ O h j O h2
  ·exact absurd rfl h
def yB{s:Bs}(h:Fp s=0):∀c∈s,45<=c.toNat∧c.toNat≠58:=λc d=>by
 unfold Fp at h;split at h
 ·cases h
 ·obtain⟨j,z,rfl⟩:=QM d;have:=RL s.length 0 0 O (by rw[h];decide) j (Ql _) z;unfold H6 at this;rw[List.getD_eq_getElem?_getD,Qb z]at this;exact this
def Pa{q:UInt8}:∀(s:Bs),∀c∈s,c=q∨∃w∈splitC q s,c∈w
 |[],c,h=>Xc
 |x::r,c,h=>by
  have ih:=Pa (q:=q) r;unfold splitC;split
  ·rename_i e;rcases Qw.1 h with rfl|h
   ·exact .inl e
   ·rcases ih c h with h|⟨w,hw,h⟩
    ·exact .inl h
    ·exact .inr ⟨w,Qg _ hw,h⟩
  ·split
   ·rename_i a t n;rcases Qw.1 h with rfl|h
    ·exact .inr ⟨_,Qj,Qj⟩
    ·rcases ih c h with h|⟨w,hw,h⟩
     ·exact .inl h
     ·rw[n]at hw;rcases Qw.1 hw with rfl|hw
      ·exact .inr ⟨_,Qj,Qg _ h⟩
      ·exact .inr ⟨w,Qg _ hw,h⟩
   ·rename_i n;exact absurd n (E6 r)
def RX{p:Bs}(h:Ay p=0):∀c∈p,45<=c.toNat∧c.toNat≠58:=λc d=>by
 rcases Pa (q:=47) p c d with rfl|⟨w,k,d⟩
 ·decide
 ·exact yB (Pf h w k) c d
def Fd{s z:Bs}(v:z≠[]):Bo s z=true↔∃r,s=z++47::r:=by
 unfold Bo;rw[if_neg v,Qq,EG];constructor
 ·rintro⟨⟨r,rfl⟩,h2⟩;rw[ZY]at h2;obtain⟨k,rfl⟩:=EG.1 h2;exact⟨k,rfl⟩
 ·rintro⟨r,rfl⟩;refine⟨⟨_,rfl⟩,?_⟩;rw[ZY];exact EG.2 ⟨r,rfl⟩
def aAF{p a b:Bs}(t:a≠[])(f:b≠[])(u:Bo p a=true)(y:Bo p b=true):BA a b=true∨BA b a=true:=by
 obtain⟨r,rfl⟩:=(Fd t).1 u;obtain⟨k,e⟩:=(Fd f).1 y;rcases Zj.1 e with ⟨x,m,n⟩|⟨x,m,n⟩
 ·cases x with
  |nil=>
   left;unfold BA;rw[ZS]at m;rw[decide_eq_true m.symm];rfl
  |cons c x=>
   simp only[Qe,QO]at n;right;unfold BA;rw[(Fd t).2 ⟨x,by rw[m,←n.1]⟩,Z6]
 ·cases x with
  |nil=>
   left;unfold BA;rw[ZS]at m;rw[decide_eq_true m];rfl
  |cons c x=>
   simp only[Qe,QO]at n;left;unfold BA;rw[(Fd f).2 ⟨x,by rw[m,←n.1]⟩,Z6]
def aPI(l:List Mt):Prop:=l.Pairwise λa b=>BA a.1 b.1=false∧BA b.1 a.1=false
structure Me (l:List Mt):Prop where
 ok:∀a∈l,Db a.1 a.2.1=0
 ns:aPI l
def Lc{p:Bs}{q:Int}(h:Db p q=0):Ay p=0∧1<=q∧q<=6:=by
 unfold Db at h;split at h
 ·rename_i u;exact absurd h u
 ·rename_i u;split at h
  ·rename_i y;exact⟨Decidable.not_not.1 u,y⟩
  ·cases h
def LR{p:Bs}(h:Ay p=0):p≠[]:=λe=>by have:=RU h;rw[e]at this;cases this
def Me.one{l:List Mt}(h:Me l){p:Bs}{a b:Mt}(x:a∈l)(f:b∈l)(u:Bo p a.1=true)(y:Bo p b.1=true):a=b:=by
 apply Classical.byContradiction;intro t;have d:=aAF (LR (Lc (h.ok a x)).1) (LR (Lc (h.ok b f)).1) u y;obtain⟨i,hi,rfl⟩:=QM x;obtain⟨j,z,rfl⟩:=QM f;rcases ZL i j with c|rfl|c
 ·have:=QS.1 h.ns i j hi z c;rw[this.1,this.2]at d;rcases d with h|h<;>cases h
 ·exact t rfl
 ·have:=QS.1 h.ns j i z hi c;rw[this.1,this.2]at d;rcases d with h|h<;>cases h
def MJ{l:List Bool}(h:Bc l≠-1):l[(Bc l).toNat]?=some true:=by
 unfold Bc at h ⊢;split
 ·rename_i k g;rw[List.findIdx?_eq_some_iff_getElem]at g;obtain⟨d,u,_⟩:=g;rw[Qi,Qb d];simpa using u
 ·rename_i g;rw[g]at h;exact absurd rfl h
def nU{l:List Bool}(h:Bc l=-1):∀b∈l,b=false:=by
 unfold Bc at h;split at h
 ·omega
 ·rename_i g;intro b f;have:=List.findIdx?_eq_none_iff.1 g b f;simpa using this
def Uc{l:List Mt}{p:Bs}(h:A5 l p≠-1):BS l (A5 l p).toNat∈l∧Bo p (BS l (A5 l p).toNat).1=true:=by
 have u:=MJ h;rw[QF,QE]at u;obtain⟨m,n,f⟩:=u;have e:BS l (A5 l p).toNat=m:=by
  unfold BS;rw[ZN];show(l[(A5 l p).toNat]?).getD _=_;unfold A5;rw[n];rfl
 rw[e];exact⟨List.mem_of_getElem? n,f⟩
def xU{l:List Mt}{p:Bs}{a:Mt}(x:a∈l)(f:Bo p a.1=true):A5 l p≠-1:=λh=>by
 have:=nU h (Bo p a.1) (Qn.2 ⟨a,x,rfl⟩);rw[this]at f;cases f
def bJ{v:Vw}(h:Me v.ms){p:Bs}{a:Mt}(x:a∈v.ms)(f:Bo p a.1=true):A5 v.ms p≠-1∧AN v p=a.2:=by
 have u:=xU x f;obtain⟨y,o⟩:=Uc u;refine⟨u,?_⟩;unfold AN;rw[if_neg u,h.one y x o f]
def Me.get{v:Vw}{p:Bs}(h:A5 v.ms p≠-1):∃a∈v.ms,Bo p a.1=true∧AN v p=a.2:=by
 obtain⟨y,o⟩:=Uc h;refine⟨_,y,o,?_⟩;unfold AN;rw[if_neg h]
def uX{l f:List Mt}{m:Mt}(h:DE l)(e:(FH l m).1=some f):(∀x,x∈f↔x∈l∨x=m)∧Db m.1 m.2.1=0∧(∀a∈l,BA m.1 a.1=false∧BA a.1 m.1=false)∧∃k,f=l.take k++m::l.drop k:=by
 rw[L5 h]at e;unfold pR at e;split at e
 ·cases e
 rename_i u;split at e
 ·cases e
 split at e
 ·cases e
 rename_i o;split at e
 ·cases e
 simp only[Qy]at e;refine⟨λx=>?_,Decidable.not_not.1 u,λa r=>?_,_,e.symm⟩
 ·rw[←e,Qu,Qw]
  conv=>rhs;rw[←Qx (bV l m.1 l.length) l,Qu]
  constructor
  ·rintro(h|h|h)<;>simp[h]
  ·rintro((h|h)|h)<;>simp[h]
 ·have o:GO m.1 (l.map (·.1))=false:=by simpa using o
  unfold GO at o;rw[List.any_eq_false]at o;have:=o a.1 (Qn.2 ⟨a,r,rfl⟩);simpa using this
def Me.add{l f:List Mt}{m:Mt}(hi:Me l)(h:DE l)(e:(FH l m).1=some f):Me f:=by
 obtain⟨u,y,o,k,rfl⟩:=uX h e;refine⟨λa x=>?_,?_⟩
 ·rcases(u a).1 x with h|rfl
  ·exact hi.ok a h
  ·exact y
 ·have d:=hi.ns;unfold aPI at d ⊢;rw[←Qx k l,Q2]at d;rw[Q2,QY];refine⟨d.1,⟨λa x=>?_,d.2.1⟩,λa x b hb=>?_⟩
  ·exact o a (Q1 x)
  ·rcases Qw.1 hb with rfl|hb
   ·exact⟨(o a (QI x)).2,(o a (QI x)).1⟩
   ·exact d.2.2 a x b hb
def rQ(l:List Mt)(p:Bs):(DP l p).Sublist l:=by
 unfold DP
 conv=>rhs;rw[←Qx (BE l p).toNat l]
 refine List.Sublist.append (List.Sublist.refl _) ?_;rw[←Z_];exact ZI _ _
def Me.rem{l:List Mt}(hi:Me l)(p:Bs):Me (DP l p):=⟨λa x=>hi.ok a ((rQ l p).subset x),hi.ns.sublist (rQ l p)⟩
def aII{l:List Mt}{p:Bs}(k:0<=BE l p){a:Mt}(x:a∈l)(t:a.1≠p):a∈DP l p:=by
 have j:l[(BE l p).toNat]?≠none:=λe=>by
  have:=SD l p;rw[List.getElem?_eq_none_iff]at e;omega
 have u:=MJ (l:=l.map λm=>decide (m.1=p)) (by unfold BE at k;omega);rw[QF,QE]at u;obtain⟨m,n,b⟩:=u;replace n:l[(BE l p).toNat]?=some m:=n;have z:l.drop (BE l p).toNat=m::l.drop ((BE l p).toNat+1):=by
  obtain⟨d,e⟩:=Q3.1 n;rw[Qo d,e]
 rw[←Qx (BE l p).toNat l,z,Qu,Qw]at x;unfold DP;rw[Qu];rcases x with h|rfl|h
 ·exact .inl h
 ·exact absurd (of_decide_eq_true b) t
 ·exact .inr h
structure Sec (m:Md) (p:Bs) (s:Sc) (rs:List Rw) (n:Int) (g d:Bool) (data:Bs):Prop where
 md:MZ m
 rm:m.room≠0
 rt:aX5 m.vw p
 len:p.length<=64
 n32:(32:UInt8)∉p
 ro:Ay p=0
 mt:m.tr.get (Ao 1 p 0)=some (B1 s)
 ok:Tw s
 nl:s.nl=false
 rs:s.rs=rs++[(n,g,d)]
 dt:d=false->m.tr.get (Ao 2 p n)=some data
section
variable{m:Md}{p:Bs}{s:Sc}{rs:List Rw}{n:Int}{g d:Bool}{data:Bs}
def Sec.sec(h:Sec m p s rs n g d data):Cc (Gj m.tr p)=some s:=by
 unfold Gj;rw[h.mt];unfold Cc;show(if true=false∨(BB (B1 s)).2≠0 then none else some (BB (B1 s)).1)=some s;rw[cG h.ok,if_neg U];have:decide (s.rs=[])=s.nl:=by rw[h.nl,h.rs];simp
 rw[this]
def Sec.nb(h:Sec m p s rs n g d data):1<=n∧n<=30:=by
 have:=DO h.ok (n,g,d) (by rw[h.rs];simp);exact this
def dK:∀{a b:List Rw} {k:Int},a.map (·.1)=b.map (·.1)->Cz a k=Cz b k
 |[],[],k,_=>rfl
 |[],y::b,k,h=>Xc
 |x::a,[],k,h=>Xc
 |x::a,y::b,k,h=>by
  simp only[QH,QO]at h;unfold Cz;rw[h.1,dK h.2]
def aCF{a b:List Rw}(h:a.map (·.1)=b.map (·.1)):GN a=GN b:=by
 rw[CQ,CQ,←ZM,←ZM,h]
def iM{s:Sc}{r:List Rw}(h:r.map (·.1)=s.rs.map (·.1))(q:Int):B5 {s with rs:=r} q=B5 s q:=by
 have hl:r.length=s.rs.length:=YU
 unfold B5;simp only[hl,dK h,aCF h];rfl
def uN(c:Nat)(x:Rw):(oY c x).1=x.1:=by
 unfold oY
 repeat' split
 all_goals rfl
end
def UO{s:Sc}{q:Int}(z:1<=AT s q):∃rs,(B9 (A_ s) q).rs=rs++[(s.la+1,false,false)]:=by
 unfold B9;simp only;have g:AT (A_ s) q=AT s q:=rfl;have hl:(A_ s).rs.length=s.rs.length+1:=by simp[A_]
 have v:Br (A_ s) q<=s.rs.length:=by unfold Br;rw[g,hl];omega
 refine⟨s.rs.drop (Br (A_ s) q),?_⟩;show Z9 _ (s.rs++_)=_;rw[Q9 v]
def Nd:∀(k:Nat){l:List Rw}{a:Int},0<=a->Cz l a=true->Cz (l.drop k) 0=true
 |0,[],a,_,_=>rfl
 |0,x::l,a,ha,h=>by
  simp only[Cz,Qq,decide_eq_true_eq]at h;show Cz (x::l) 0=true;simp only[Cz,Qq,decide_eq_true_eq];exact⟨O,h.2⟩
 |k+1,[],a,_,_=>rfl
 |k+1,x::l,a,ha,h=>by
  simp only[Cz,Qq,decide_eq_true_eq]at h;exact Nd k O h.2
def RY:∀{l:List Rw} {a:Int} {x:Rw},Cz l a=true->a<x.1->GN l<x.1->Cz (l++[x]) a=true
 |[],a,x,_,h,_=>by
  show(decide (a<x.1)&&true)=true;rw[decide_eq_true h];rfl
 |[y],a,x,h,_,f=>by
  simp only[Cz,Qq,decide_eq_true_eq]at h;have f:y.1<x.1:=f;show(decide (a<y.1)&&(decide (y.1<x.1)&&true))=true;rw[decide_eq_true h.1,decide_eq_true f];rfl
 |y::z::l,a,x,h,h1,f=>by
  simp only[Cz,Qq,decide_eq_true_eq]at h;have d:Cz (z::l) y.1=true:=by
   simp only[Cz,Qq,decide_eq_true_eq];exact h.2
  have w:GN (z::l)<x.1:=by rw[CQ]at f ⊢;rw[List.getLast?_cons_cons]at f;exact f
  have q:=Ot d z Qj;rw[CQ]at w;have b:y.1<x.1:=Int.lt_trans q.1 (Int.lt_of_le_of_lt q.2 w);have:=RY d b (by rw[CQ];exact w);show(decide (a<y.1)&&Cz (z::l++[x]) y.1)=true;rw[this,decide_eq_true h.1];rfl
def aRZ{s:Sc}(j:Tw s){q:Int}(z:B5 s q=false)(hl:s.la≠30):Tw (B9 (A_ s) q)∧(B9 (A_ s) q).nl=false:=by
 refine⟨?_,rfl⟩;obtain⟨w,u,o,y,e,f⟩:=EM z;have g:AT (A_ s) q=AT s q:=rfl;have i:1<=AT s q∧AT s q<=6∧(s.mx≠0->AT s q=s.mx):=by
  unfold AT;split
  ·exact⟨w.1,w.2,λh=>absurd ‹_› h⟩
  ·exact⟨O,u.2,λ_=>rfl⟩
 have r:(B9 (A_ s) q).rs.length<=(AT s q).toNat:=by
  unfold B9;simp only[Zn];unfold Br;rw[g];omega
 obtain⟨rs,x⟩:=UO (s:=s) (q:=q) i.1;have b:Cz (A_ s).rs 0=true:=RY e (by show 0<s.la+1;omega) (by rw[f];show s.la<s.la+1;omega);have a:Cz (B9 (A_ s) q).rs 0=true:=Nd _ (Q6 0) b;have p:GN (B9 (A_ s) q).rs=s.la+1:=by rw[CQ,x];simp
 refine⟨?_,λh=>Xc⟩;have v:AT (B9 (A_ s) q) 6=if s.mx=0 then 6 else s.mx:=rfl
 unfold B5;rw[a,p,v];have m:(B9 (A_ s) q).mx=s.mx:=rfl;have n:(B9 (A_ s) q).la=s.la+1:=rfl;rw[m,n,decide_eq_true (by omega:0<=s.mx∧s.mx<=6),decide_eq_true (by omega:0<=s.la+1∧s.la+1<=30),decide_eq_true (rfl:s.la+1=s.la+1)];have:decide ((if s.mx=0 then(6:Int)else s.mx)<((B9 (A_ s) q).rs.length:Int))=false:=by
  refine decide_eq_false λh=>?_
  have:=i.2.2;split at h
  ·omega
  ·rename_i c;have:=this c;omega
 rw[this];rfl
def aFh:=y2 f12 [] []
def aYP{m:HF}{i:Id}{a b c d e f g:D}:Ag (m.put i 0 [a,b,c,d,e,f,g]) i 0 7=some [a,b,c,d,e,f,g]:=AB rfl
def pO{m:HF}{i j o:Nat}{x:List D}(h:j≠i):m.put [i] 0 x [j] o=m [j] o:=aA (by simp[h])
def lnM:Bs:=[109,111,117,110,116,32,114,111,111,116,32,97,32,50,32,48]
def lnW:Bs:=[119,114,105,116,101,32,114,111,111,116,32,97,47,120,32,45,32,54,49,54,50]
def lnR:Bs:=[114,101,97,100,32,114,111,111,116,32,97,47,120,32,48]
def lnN:Bs:=[110,111,110,115,101,110,115,101]
def aM:Ak:={akZ with op:=5,tk:=rP,pa:=[97],n:=2}
def aW:Ak:={akZ with op:=10,tk:=rP,pa:=[97,47,120],cas:=-1,da:=[97,98]}
def aR:Ak:={akZ with op:=9,tk:=rP,pa:=[97,47,120]}
def aXt:D7 lnM=(aM,0):=Z
def aXr:D7 lnW=(aW,0):=Z
def aXs:D7 lnR=(aR,0):=Z
def aZh:(D7 lnN).2=22:=Z
def m0A:Md:=Nr Nw 2000
def aCO:MZ m0A:=aMy (r:=1700) V V
def v1A:Vw:={m0A.vw with nlm:=false,ms:=[([97],2,false)]}
def aYw:FJ m0A.vw aM=0:=Z
def nTA:List Mt:=[([97],2,false)]
def oM:Oc:=Mb (HM m0A.vw) false nTA
def XM:Ip m0A.vw aM (λ_=>oM):=by
 have r:=aCO.vw;have f:=bM r.ok (by have:=(uV lnM).1.ok;rw[aXt]at this;exact this);rw[aYw]at f;have la:=qG (nl:=true) (t:=[]) (l:=[]) (m:=([97],2,false)) V (λ_=>rfl) V;rw[show FH [] ([97],2,false)=(some nTA,0)by kernel_rfl]at la;have c:S9 nTA:=⟨V,λm n=>by rw[Qc.1 n];decide⟩;have b:∀m∈nTA,m.1.length<=64:=λm n=>by rw[Qc.1 n];decide
 exact BI _ (λk _=>BR (v:=m0A.vw) .o5 aM k rfl f _ _ (aF3 ⟨m0A.vw,aM,k⟩ (HM m0A.vw) false nTA la (IT m0A.vw) c)) rfl (DW .done rfl trivial rfl Xp (O9 V) (by simp[oM,Mb,PF,Oc.op,HM]) ⟨by simp[oM,Mb,PF,Oc.op,HM],by
    simp only[oM,Mb,PF,Oc.op,HM,Qf,List.forall_mem_cons];have:=PP b;exact⟨DR (.inl rfl) rfl (Ql _) (by have:nTA.length=1:=rfl;omega),λ_ h=>nomatch h⟩⟩ (Vb r c (λi j u y=>absurd y (by show ¬j<1;omega)) (λe=>Xo) V b))
def m1A:Md:=⟨v1A,Bg oM.ops firstE,2000⟩
def dnM:Ck m0A oM=(m1A,[111,107]):=Z
def eQ:MZ m1A:=by
 have h:=(P_ aCO (XM.rep kn0 ⟨V,V,λx p=>XA,λx p=>XA⟩ rfl)).md;rw[dnM]at h;exact h
def aYu:FJ m1A.vw aW=0:=Z
def oW:Oc:=Fq (Co m1A.vw aW) m1A
def aXw:IV aW:=by have:=(uV lnW).1;rw[aXr]at this;exact this
def aXx:IV aR:=by have:=(uV lnR).1;rw[aXs]at this;exact this
def XW:Ip m1A.vw aW (Co m1A.vw aW):=by
 have f:=bM eQ.vw.ok aXw.ok;rw[aYu]at f;exact SG eQ.vw aXw f Xf V
def m2A:Md:=(Ck m1A oW).1
def dnW:(Ck m1A oW).2=[111,107,32,110,117,109,98,101,114,32,49]:=Z
def m2v:m2A.vw=m1A.vw:=Z
def m2r:m2A.room=m1A.room:=Z
def m2c:m2A.tr.cnt=5:=Z
def m1c:m1A.tr.cnt=3:=Z
def aYv:FJ m2A.vw aR=0:=Z
def WM:MZ m2A:=by
 obtain⟨w,k,g,v⟩:=Ow eQ XW;have a:LH m1A.vw aW (Fq (Co m1A.vw aW) m1A):=by rw[v];exact XW.rep k g (by rw[←v];exact w)
 exact(P_ eQ a).md
def XR:Ip m2A.vw aR (CD m2A.vw aR):=by
 have f:=bM WM.vw.ok aXx.ok;rw[aYv]at f;exact gR WM.vw aXx f Xf (λh=>Xc) (.inl rfl)
def oR:Oc:=Fq (CD m2A.vw aR) m2A
def dnR:Ck m2A oR=(m2A,[111,107,32,102,111,117,110,100,32,49,32,54,49,54,50]):=by
 obtain⟨w,k,g,v⟩:=Ow WM XR;have a:LH m2A.vw aR (Fq (CD m2A.vw aR) m2A):=by rw[v];exact XR.rep k g (by rw[←v];exact w)
 refine Prod.ext ((P_ WM a).ro (.inr (.inl rfl))) ?_
 kernel_rfl
def aMc:m0A.room≠0:=V
def dM:Ed [.agg (Ij m0A),.str lnM]=some (.tup [.agg (Ij m1A),.str [111,107]]):=by
 have h:=Rt aMc (s:=lnM) V aXt aCO XM;rw[show Fq (λ_=>oM) m0A=oM from rfl,dnM]at h;exact h
def dW:Ed [.agg (Ij m1A),.str lnW]=some (.tup [.agg (Ij m2A),.str [111,107,32,110,117,109,98,101,114,32,49]]):=by
 have h:=Rt (m:=m1A) V (s:=lnW) V aXr eQ XW;rw[show(Ck m1A (Fq (Co m1A.vw aW) m1A)).2=_ from dnW]at h;exact h
def dR:Ed [.agg (Ij m2A),.str lnR]=some (.tup [.agg (Ij m2A),.str [111,107,32,102,111,117,110,100,32,49,32,54,49,54,50]]):=by
 have h:=Rt (m:=m2A) (by rw[m2r];decide) (s:=lnR) V aXs WM XR;rw[show Ck m2A (Fq (CD m2A.vw aR) m2A)=_ from dnR]at h;exact h
def dN:Ed [.agg (Ij m2A),.str lnN]=some (.tup [.agg (Ij m2A),.str [101,114,114,111,114,32,50,50]]):=by
 have h:=wG (m:=m2A) (by rw[m2r];decide) (s:=lnN) V aZh V;rw[show IY (.fail 22)=_ by kernel_rfl]at h;exact h
def sF:S7 [.agg (Ij m2A),.agg (Ij m1A)]=some (.bool false):=
 aLq m2A m1A m2v m2r (Qd WM.vw.ml V) (Qd WM.vw.kl V) (λk g=>(WM.vw.ok.kp k g).1.1) (by rw[m2c,m1c];decide)
def sZ:S7 [.agg (Ij mdZ),.agg (Ij mdZ)]=some (.bool true):=
 wE mdZ V V (λk g=>Xm) List.Pairwise.nil V
def PB:=Aq [(34,Ac Oa),(11,Ac Ed),(16,Ac S7),(17,Ac aHd),(36,Ac wB),(35,Ac U9),(18,Ac wD)]
def kC:=RF PB aFj [.t 0] 113
def aRG:Kq kC 9:=An (Aj func9) (Aa aDp (Aa aDs (Aa aRC (Aa aRB (Aa aDo (Aa VS (Aa aRA Ad)))))))
def kB:kC []=some (.bool true):=by
 refine Am (Qa rfl) ?_;unfold aFj;have n1:Oa [.str [48,49,50,51,52,53,54,55,56,57,97,98,99,100,101,102],.int .i64 2000]=some (.tup [.agg (Ij m0A),.int .i64 0]):=jT Nw 2000 rfl V (by have:=Wc;omega);have n2:Oa [.str [115,104,111,114,116],.int .i64 2000]=some (.tup [.agg (Ij mdZ),.int .i64 2]):=aA2 [115,104,111,114,116] 2000 V;have a:Oa [.str [48,49,50,51,52,53,54,55,56,57,97,98,99,100,101,102],.int .i64 20]=some (.tup [.agg (Ij mdZ),.int .i64 7]):=qD Nw 20 rfl V (by have:=aD2;omega);have u:Ed [.agg (Ij m0A),.str [109,111,117,110,116,32,114,111,111,116,32,97,32,50,32,48]]=_:=dM;have p:Ed [.agg (Ij m1A),.str [119,114,105,116,101,32,114,111,111,116,32,97,47,120,32,45,32,54,49,54,50]]=_:=dW;have q:Ed [.agg (Ij m2A),.str [114,101,97,100,32,114,111,111,116,32,97,47,120,32,48]]=_:=dR;have y:Ed [.agg (Ij m2A),.str [110,111,110,115,101,110,115,101]]=_:=dN;have c:Ed [.agg (Ij mdZ),.str [115,116,97,116,117,115]]=some (.tup [.agg (Ij mdZ),.str []]):=aLr rfl [115,116,97,116,117,115];have i:=WM.same;have g:=sF;have e:=sZ;have j:=aHc m0A aMc PZ;have r:=S6;have m:=LI PZ;have s:wD [.agg (Ij m0A)]=some (.int .i64 2000):=aHb m0A;have z5:m0A.tr=firstE:=rfl;rw[z5]at j;generalize k:((Tr.weighL firstE.lst:Nat):Int)=W at j m;generalize firstE=F at r m;generalize m0A=A at *;generalize m1A=B at *;generalize m2A=C at *;simp only[Ij,mdZ,It,Az,Ar,Zd,Qe,Qf,LM]at n1 n2 a u p q y c i g e j r m s;simp (config:={maxSteps:=20000000}) (disch:=first|assumption|omega)only[HG,↓C2,HB,simprocAttr,HP,Ae PB 34,n1,n2,a,Ae PB 11,u,p,q,y,c,Ae PB 16,i,g,e,Ae PB 17,j,Ae PB 36,r,Ae PB 35,m,Ae PB 18,s,beq_self_eq_true]
def aX3:=Aq []
def wF:=RF aX3 aFh [.cell (some 5) 2] 5
def aRE:Kq wF 12:=An (Aj func12) Ad
def aHf(m:Md):wF [.agg (Ij m)]=some (IB m.vw):=by
 refine Am (Qa rfl) ?_;unfold aFh;simp only[Ij,IB,It,Qe,Qf];simp (disch:=first|assumption|omega)only[HG,↓C2,HB,simprocAttr,HP]
 all_goals exact Y2
def kO:Md->List Bs->Md->Prop
 |m,[],z=>z=m
 |m,s::l,z=>∃a y,aPl m s a y∧kO a l z
def aC3{S:HD}(r:S 11=some (Ac Ed)){l:List Bs}{nl:Bool}{z:Md}{Q:Ex->St->Prop}(hn:l.length<=40)(hQ:∀n,n.s 6= .ptr [9] 0->n.s 4= .ptr [0] 0->n.s 7= .int .i64 0->Ag n.m [9] 0 7=some (Ij z)->(∃q,Ag n.m [0] 0 7=some q)->Q (.exit 0) n):
  ∀(f j:Nat)(m:Md)(v:St) g,l.length=j+f->kO m (l.drop j) z->10<=v.c->v.s 1= .slice nl [] (strsD l)->v.s 6= .ptr [9] 0->v.s 4= .ptr [0] 0->v.s 7= .int .i64 0->v.s 8= .int .i64 (j:Int)->Ag v.m [9] 0 7=some (Ij m)->(∃q,Ag v.m [0] 0 7=some q)->A9 S [] NU Q v g:=by
 intro f;induction f with
 |zero=>
  intro j m v g b a d u h6 h4 h7 h8 m0 mq;refine Af NU.eq_1 ?_;have d1:((j:Int)<l.length)=False:=eq_false O;have ca:=AR l;rw[QP O]at a;obtain rfl:z=m:=a;simp only[HG,↓C2,HB,simprocAttr,u,h8,ca,d1];exact hQ _ h6 h4 h7 m0 mq
 |succ f ih=>
  intro j m v g b a d u h6 h4 h7 h8 m0 mq;refine Af NU.eq_1 ?_;have d1:((j:Int)<l.length)=True:=eq_true O;have ca:=AR l;have hj:j<l.length:=O
  have p:=DK hj;rw[Qo hj]at a;obtain⟨m1,y,T,a⟩:=a;generalize l[j]=x at p T;have ih:=ih (j+1) m1;have e:=T.run;obtain⟨i,ia,t⟩:=v;obtain⟨q,mq⟩:=mq;simp only at d u h6 h4 h7 h8 m0 mq;have eb:∀k,(9=t+k)=False:=λk=>eq_false O
  have w:∀k,(t+k=9)=False:=λk=>eq_false O
  have oa:=nJ (j:=j);have o:IntKind.i64.wrap ((j:Int)+1)=((j+1:Nat):Int):=H9 O O;generalize IY y=rt at e;simp only[Ij,It,Qe,Qf]at e m0
  repeat' (first|(refine aB (Al (by simp[AK,AA,H3,Ai,Ac,HJ.ev,Cb,h6,eb,w,r])) ?_)|simp (disch:=first|assumption|omega)only[↓C2,HE,simprocAttr,HP,u,h6,h4,h7,h8,ca,d1,p,oa,Qi,o,m0,Ab r,e,aYP,IR,pO,Qp,and_self])
  refine ih _ _ O a Xa u h6 h4 h7 rfl (AB rfl) ⟨q,?_⟩;simp (disch:=omega)only[IR];exact mq
def aLs(r:Int)(o:0<=r)(u:r<65536)(nl:Bool)(l:List Bs)(w:l.length<=40){z:Md}(t:kO (Nr Nw (300+r)) l z):wH [.int .u16 r,.slice nl [] (strsD l)]=some (.tup [.agg (Ij z),.bool true]):=by
 refine Am (Qa rfl) ?_;have h:aGg 11=some (Ac Ed):=rfl;unfold aFi;have la:=jT Nw (300+r) rfl O (by have:=Wc;omega);have w1:IntKind.i64.wrap r=r:=H9 O O;have p:IntKind.i64.wrap (300+r)=300+r:=H9 O O;generalize Nr Nw (300+r)=m at *;unfold Nw at la;simp only[Ij,It,Qe,Qf]at la ⊢;simp (disch:=first|assumption|omega)only[HG,↓C2,HB,simprocAttr,HP,Ae aGg 34,la,w1,p];refine aC3 h (z:=z) w (λn v j s k y=>?_) l.length 0 m _ _ O t (Qa rfl) rfl rfl rfl rfl rfl (AB rfl) ⟨[.bool false,.int .i64 0,.str [],.slice true [] [],.slice true [] [],.nilptr,.int .i64 0],?_⟩
 ·obtain⟨q,y⟩:=y;simp only[Ij,It,Qe,Qf]at k;have x:∀{m:HF} {i:Id} {a b c d e f g:D},Ag (m.put i 0 [a,b,c,d,e,f,g]) i 0 7=some [a,b,c,d,e,f,g]:=AB rfl
  repeat' (first|(refine aB (Al ?_) ?_;first|rfl|simp[AK,AA,H3,Ai,Ac])|simp (disch:=first|assumption|omega)only[↓C2,HE,simprocAttr,HP,v,j,s,k,y,x,Iw,AW,QT,Qp,and_self])
  all_goals exact Y2
 ·simp (disch:=decide)only[AG];exact AB rfl
def aBk(t:Tr)(p:Bs)(rs:List Rw):Prop:=(∀r∈rs,(t.get (Ao 2 p r.1)).isSome=!r.2.2)∧∀n y,1<=n->n<=30->t.get (Ao 2 p n)=some y->∃r∈rs,r.1=n
def aAT(v:Vw)(t:Tr)(p:Bs):Prop:=(t.get (Ao 1 p 0)=none∧∀n,1<=n->n<=30->t.get (Ao 2 p n)=none)∨
 ∃x,t.get (Ao 1 p 0)=some x∧(BB x).2=0∧A5 v.ms p≠-1∧B5 (BB x).1 (AN v p).1=false∧aBk t p (BB x).1.rs
structure H8 (m:Md):Prop where
 key:∀q x,m.tr.get q=some x->Bx (Ax q).1 (Ax q).2.1 (Ax q).2.2=0
 sec:∀p,Ay p=0->aAT m.vw m.tr p
 mts:Me m.vw.ms
 kl:m.vw.ks.length<=24
def I4{v v':Vw}{t c:Tr}{p:Bs}(s:Ay p=0)(h:aAT v t p)(z:∀q,(Ax q).2.1=p->((Ax q).1=1∨(Ax q).1=2)->Bx (Ax q).1 (Ax q).2.1 (Ax q).2.2=0->c.get q=t.get q)
  (i:A5 v.ms p≠-1->A5 v'.ms p≠-1∧(AN v' p).1=(AN v p).1):aAT v' c p:=by
 have g1:c.get (Ao 1 p 0)=t.get (Ao 1 p 0):=by
  have e:=BH (L9 s);exact z _ (by rw[e]) (by rw[e];exact .inl rfl) (by rw[e];exact L9 s)
 have g2:∀n,1<=n->n<=30->c.get (Ao 2 p n)=t.get (Ao 2 p n):=λn u f=>by
  have g:=Oo s ⟨u,f⟩;have e:=BH g;exact z _ (by rw[e]) (by rw[e];exact .inr rfl) (by rw[e];exact g)
 rcases h with ⟨u,f⟩|⟨x,u,f,o,j,w,m⟩
 ·exact .inl ⟨g1.trans u,λn a b=>(g2 n a b).trans (f n a b)⟩
 ·obtain⟨r1,k⟩:=i o;refine .inr ⟨x,g1.trans u,f,r1,by rw[k];exact j,λr i=>?_,λn y a b d=>m n y a b ((g2 n a b).symm.trans d)⟩;have hb:=DO (TM f) r i;rw[g2 r.1 hb.1 hb.2];exact w r i
def PX{t:Tr}(v:Tr.Ord t.lst)(g:∀q x,t.get q=some x->Bx (Ax q).1 (Ax q).2.1 (Ax q).2.2=0){l:List Op1}(hl:IF l):∀q x,(Bg l t).get q=some x->Bx (Ax q).1 (Ax q).2.1 (Ax q).2.2=0:=λq x p=>by
 obtain⟨u,y⟩:=Ni l v;rw[Tr.get_lst q _ u]at p;rcases y _ (Tr.getL_some p)with o|⟨z,d,j,e⟩
 ·exact g q x (by rw[Tr.get_lst q _ v];exact Tr.getL_mem v o)
 ·simp only[ZA]at e;rw[e.1];exact(hl.ok z d).2 O
def CT{m:Md}{o:Oc}(z:H8 m)(h:H8 ⟨o.vw,Bg o.ops m.tr,m.room⟩):H8 (Ck m o).1:=by
 unfold Ck;split
 ·exact z
 ·exact h
def Wa{m:Md}{o:Oc}(z:H8 m)(k:Tr.Ord m.tr.lst)(hl:IF o.ops)(d:∀x∈o.ops,x.1≠3∧(Ax x.2.1).1≠1∧(Ax x.2.1).1≠2)(c:o.vw.ms=m.vw.ms)(f:o.vw.ks.length<=24):H8 ⟨o.vw,Bg o.ops m.tr,m.room⟩:=by
 refine⟨PX k z.key hl,λp g=>I4 g (z.sec p g) (λq v e2 _=>?_) (λh=>?_),by rw[show(⟨o.vw,Bg o.ops m.tr,m.room⟩:Md).vw=o.vw from rfl,c];exact z.mts,f⟩
 ·refine L1 k λx w=>?_
  obtain⟨u,y,r⟩:=d x w;unfold Tj;rw[if_neg u];rintro rfl;rcases e2 with e2|e2
  ·exact y e2
  ·exact r e2
 ·show A5 o.vw.ms p≠-1∧(AN o.vw p).1=(AN m.vw p).1;unfold AN;rw[c];exact⟨h,rfl⟩
def tJ{m:Md}(z:H8 m)(k:Tr.Ord m.tr.lst){p:Bs}{l:List Op1}(hl:IF l)(d:∀x∈l,x.1≠3∧(Ax x.2.1).2.1=p)(j:aAT m.vw (Bg l m.tr) p):H8 ⟨m.vw,Bg l m.tr,m.room⟩:=by
 refine⟨PX k z.key hl,λc n=>?_,z.mts,z.kl⟩;by_cases e:c=p
 ·rw[e];exact j
 ·refine I4 n (z.sec c n) (λq v _ _=>L1 k λx w=>?_) (λh=>⟨h,rfl⟩);obtain⟨u,y⟩:=d x w;unfold Tj;rw[if_neg u];rintro rfl;exact e (v.symm.trans y)
def F7{f:Int->Bs}:∀(ns:List Int){t:Tr},Tr.Ord t.lst->∀{n:Int},n∈ns->(Bg (ns.map λn=>((2:Int),f n,([]:Bs))) t).get (f n)=none
 |[],t,h,n,hn=>by cases hn
 |k::ns,t,h,n,hn=>by
  show(Bg (ns.map _) (DT (2,f k,[]) t)).get (f n)=none;have y:=(DS (2,f k,[]) h).1;by_cases u:n∈ns
  ·exact F7 ns y u
  ·have e:n=k:=(Qw.1 hn).elim id (λh=>absurd h u);subst e;by_cases p:∃j∈ns,f j=f n
   ·obtain⟨j,z,a⟩:=p;have o:=F7 (f:=f) ns y z;rw[a]at o;exact o
   ·rw[GY ns y (λj z e=>p ⟨j,z,e⟩),PU,Tr.get_del h,if_pos rfl]
def Nc:∀{l:List Rw} {a:Int},Cz l a=true->l.Pairwise λx y=>x.1<y.1
 |[],a,_=>List.Pairwise.nil
 |x::l,a,h=>by
  simp only[Cz,Qq,decide_eq_true_eq]at h;exact QY.2 ⟨λy s=>(Ot h.2 y s).1,Nc h.2⟩
def eC{l:List Rw}(h:l.Pairwise λx y=>x.1<y.1){a b:Rw}(r:a∈l)(f:b∈l)(e:a.1=b.1):a=b:=by
 obtain⟨i,hi,rfl⟩:=QM r;obtain⟨j,z,rfl⟩:=QM f;rcases ZL i j with c|rfl|c
 ·have:=QS.1 h i j hi z c;omega
 ·rfl
 ·have:=QS.1 h j i z hi c;omega
def PR{v:Vw}{t:Tr}{p:Bs}(h:aAT v t p):aBk t p (EB (Cc (Gj t p))).rs∧(∀s,Cc (Gj t p)=some s->t.get (Ao 1 p 0)≠none∧B5 s (AN v p).1=false):=by
 unfold Gj Cc;rcases h with ⟨u,f⟩|⟨x,u,f,o,m,w⟩
 ·rw[u];refine⟨⟨λr i=>(by cases i),λn y a b d=>?_⟩,λs j=>(by cases j)⟩;rw[f n a b]at d;cases d
 ·rw[u];have e:¬((some x).isSome=false∨(BB ((some x).getD [])).2≠0):=by
   rintro(h|h)
   ·cases h
   ·exact h f
  simp only at e ⊢;rw[if_neg e];exact⟨w,λs j=>by
   simp only[Qy]at j;subst j;exact⟨U,m⟩⟩
def aIs{v:Vw}{t:Tr}{p:Bs}{s:Sc}(n:t.get (Ao 1 p 0)=some (B1 s))(j:Tw s)(i:A5 v.ms p≠-1)(f:B5 s (AN v p).1=false)(z:aBk t p s.rs):aAT v t p:=by
 have e:=cG j;refine .inr ⟨_,n,by rw[e],i,by rw[e];exact f,by rw[e];exact z⟩
section
variable{t:Tr}{p:Bs}{rs:List Rw}
def aDt{a b:Int}(g:Ay p=0)(x:1<=a∧a<=30)(f:1<=b∧b<=30)(h:Ao 2 p a=Ao 2 p b):a=b:=(sR (Oo g x) (Oo g f) h).2.2
def OC{b:Int}(g:Ay p=0)(f:1<=b∧b<=30):Ao 2 p b≠Ao 1 p 0:=λh=>by have:=(sR (Oo g f) (L9 g) h).1;omega
def aJ7(v:Tr.Ord t.lst)(s:Ay p=0){x:Bs}{nd:List (Int×Bs)}(i:∀z∈nd,1<=z.1∧z.1<=30){gone:List Int}(hg:∀n∈gone,1<=n∧n<=30)(j:∀z∈nd,z.1∉gone)(c:nd.length<=1):
  let r:=Bg ([((1:Int),Ao 1 p 0,x)]++nd.map (λz=>((1:Int),Ao 2 p z.1,z.2))++gone.map (λn=>((2:Int),Ao 2 p n,([]:Bs)))) t
  r.get (Ao 1 p 0)=some x∧∀n,1<=n->n<=30->r.get (Ao 2 p n)=if n∈gone then none else match nd.find? (λz=>decide (z.1=n))with|some z=>some z.2|none=>t.get (Ao 2 p n):=by
 intro r;have g:Tr.Ord (DT (1,Ao 1 p 0,x) t).lst:=(DS _ v).1;have y:r=Bg (gone.map (λn=>((2:Int),Ao 2 p n,([]:Bs)))) (Bg (nd.map (λz=>((1:Int),Ao 2 p z.1,z.2))) (DT (1,Ao 1 p 0,x) t)):=by
  show Bg _ t=_;rw[Nj,Nj];rfl
 have d:Tr.Ord (Bg (nd.map (λz=>((1:Int),Ao 2 p z.1,z.2))) (DT (1,Ao 1 p 0,x) t)).lst:=aIU g;have o:∀q,(DT (1,Ao 1 p 0,x) t).get q=if q=Ao 1 p 0 then some x else t.get q:=λq=>by rw[rY,Tr.get_put v]
 have h:(Bg (nd.map (λz=>((1:Int),Ao 2 p z.1,z.2))) (DT (1,Ao 1 p 0,x) t)).get (Ao 1 p 0)=some x∧∀n,1<=n->n<=30->(Bg (nd.map (λz=>((1:Int),Ao 2 p z.1,z.2))) (DT (1,Ao 1 p 0,x) t)).get (Ao 2 p n)=match nd.find? (λz=>decide (z.1=n))with|some z=>some z.2|none=>t.get (Ao 2 p n):=by
  match nd,c,i with
  |[],_,_=>exact⟨by show(DT _ t).get _=_;rw[o,if_pos rfl],λn a b=>by show(DT _ t).get _=_;rw[o,if_neg (OC s ⟨a,b⟩)];rfl⟩
  |[z],_,i=>
   have hz:=i z Qj;have u:∀q,(Bg ([z].map (λz=>((1:Int),Ao 2 p z.1,z.2))) (DT (1,Ao 1 p 0,x) t)).get q=if q=Ao 2 p z.1 then some z.2 else(DT (1,Ao 1 p 0,x) t).get q:=λq=>by
    show(DT (1,Ao 2 p z.1,z.2) _).get q=_;rw[rY,Tr.get_put g]
   refine⟨by rw[u,if_neg (λe=>OC s hz e.symm),o,if_pos rfl],λn a b=>?_⟩;rw[u,o,if_neg (OC s ⟨a,b⟩)];by_cases e:z.1=n
   ·subst e;simp
   ·rw[if_neg (λe2=>e (aDt s ⟨a,b⟩ hz e2).symm)];simp[e]
 refine⟨?_,λn a b=>?_⟩
 ·rw[y,GY (f:=λn=>Ao 2 p n) gone d (λn w=>OC s (hg n w))];exact h.1
 ·rw[y];by_cases w:n∈gone
  ·rw[if_pos w];exact F7 (f:=λn=>Ao 2 p n) gone d w
  ·rw[if_neg w,GY (f:=λn=>Ao 2 p n) gone d (λk m e=>w (by rw[←aDt s (hg k m) ⟨a,b⟩ e];exact m))];exact h.2 n a b
end
section
variable{m:Md}{p:Bs}
def tK(hF:H8 m)(q:Tr.Ord m.tr.lst)(g:Ay p=0)(i:A5 m.vw.ms p≠-1){s:Sc}(k:Tw s)(f:B5 s (AN m.vw p).1=false){e:List (Int×Bs)}{gone:List Int}(ja:∀z∈e,1<=z.1∧z.1<=30)(hg:∀n∈gone,1<=n∧n<=30)(j:∀z∈e,z.1∉gone)(c:e.length<=1)
  (h:∀r∈s.rs,(if r.1∈gone then none else match e.find? (λz=>decide (z.1=r.1))with|some z=>some z.2|none=>m.tr.get (Ao 2 p r.1)).isSome=!r.2.2)
  (t:∀n,1<=n->n<=30->n∉gone->(e.find? (λz=>decide (z.1=n))=none->∃y,m.tr.get (Ao 2 p n)=some y)->∃r∈s.rs,r.1=n)
  (hl:IF ([((1:Int),Ao 1 p 0,B1 s)]++e.map (λz=>((1:Int),Ao 2 p z.1,z.2))++gone.map (λn=>((2:Int),Ao 2 p n,([]:Bs))))):
  H8 ⟨m.vw,Bg ([((1:Int),Ao 1 p 0,B1 s)]++e.map (λz=>((1:Int),Ao 2 p z.1,z.2))++gone.map (λn=>((2:Int),Ao 2 p n,([]:Bs)))) m.tr,m.room⟩:=by
 obtain⟨g1,u⟩:=aJ7 q g (x:=B1 s) ja hg j c;have v:=BH (L9 g);refine tJ hF q (p:=p) hl (λx hx=>?_) (aIs g1 k i f ⟨λr i=>?_,λn y a b o=>?_⟩)
 ·rcases Qu.1 hx with hx|hx
  ·rcases Qu.1 hx with hx|hx
   ·rw[Qc.1 hx];exact⟨Xy,by rw[v]⟩
   ·obtain⟨z,d,rfl⟩:=Qn.1 hx;exact⟨Xy,by rw[BH (Oo g (ja z d))]⟩
  ·obtain⟨n,w,rfl⟩:=Qn.1 hx;exact⟨XG,by rw[BH (Oo g (hg n w))]⟩
 ·have f:=DO k r i;rw[u r.1 f.1 f.2];exact h r i
 ·rw[u n a b]at o;by_cases w:n∈gone
  ·rw[if_pos w]at o;cases o
  ·rw[if_neg w]at o;refine t n a b w λhf=>?_
   rw[hf]at o;exact⟨y,o⟩
def aJS{s:Sc}{q:Int}(z:B5 s q=false)(hl:s.la≠30):B5 (B9 (A_ s) q) q=false:=by
 obtain⟨w,u,v,y,e,f⟩:=EM z;have g:AT (A_ s) q=AT s q:=rfl;have i:1<=AT s q:=X9
 have r:(B9 (A_ s) q).rs.length<=(AT s q).toNat:=by
  unfold B9;simp only[Zn];unfold Br;rw[g];omega
 obtain⟨rs,x⟩:=UO (s:=s) (q:=q) i;have b:Cz (A_ s).rs 0=true:=RY e (by show 0<s.la+1;omega) (by rw[f];show s.la<s.la+1;omega);have a:Cz (B9 (A_ s) q).rs 0=true:=Nd _ (Q6 0) b;have p:GN (B9 (A_ s) q).rs=s.la+1:=by rw[CQ,x];simp
 have k:AT (B9 (A_ s) q) q=AT s q:=rfl;unfold B5;rw[a,p,k];have m:(B9 (A_ s) q).mx=s.mx:=rfl;have n:(B9 (A_ s) q).la=s.la+1:=rfl;rw[m,n,decide_eq_true w,decide_eq_true (by omega:0<=s.mx∧s.mx<=6),decide_eq_true (by omega:0<=s.la+1∧s.la+1<=30),decide_eq_true (rfl:s.la+1=s.la+1),decide_eq_false O];rfl
def UK(hF:H8 m)(ho:Tr.Ord m.tr.lst)(hp:Ay p=0)(hr:A5 m.vw.ms p≠-1){cas:Int}{data:Bs}(fa:IF (Dt m.vw p (EB (Cc (Gj m.tr p))) cas data).ops):H8 (Ck m (Dt m.vw p (EB (Cc (Gj m.tr p))) cas data)).1:=by
 refine CT hF ?_;have oa:=Er (Gj m.tr p);obtain⟨t,_⟩:=PR (hF.sec p hp);generalize EB (Cc (Gj m.tr p))=s at *;by_cases hf:(Cd s (AN m.vw p).1 (AN m.vw p).2 cas data.length).2.2.2≠0
 ·rw[show Dt m.vw p s cas data=Fz m.vw (Cd s (AN m.vw p).1 (AN m.vw p).2 cas data.length).2.2.2 from if_pos hf];exact hF
 have pa:IS s (AN m.vw p).1 (AN m.vw p).2 cas data.length=0:=by
  apply Classical.byContradiction;intro v;apply hf;unfold Cd;rw[if_pos v];exact v
 have hw:Dt m.vw p s cas data=Rx (HM m.vw) p (B9 (A_ s) (AN m.vw p).1,s.la+1,FM (A_ s) (AN m.vw p).1,0) data:=by
  have:Cd s (AN m.vw p).1 (AN m.vw p).2 cas data.length=(B9 (A_ s) (AN m.vw p).1,s.la+1,FM (A_ s) (AN m.vw p).1,0):=by unfold Cd;rw[if_neg (λc=>c pa)]
  rw[show Dt m.vw p s cas data=Rx (HM m.vw) p (Cd s (AN m.vw p).1 (AN m.vw p).2 cas data.length) data from if_neg hf,this]
 rw[hw]at fa ⊢;have o:B5 s (AN m.vw p).1=false∧s.la≠30:=by
  refine⟨dP pa,λf=>?_⟩;unfold IS at pa
  repeat' split at pa
  all_goals first|(cases pa;done)|exact absurd f ‹_›
 obtain⟨u,_⟩:=aRZ oa o.1 o.2;have cb:=aJS o.1 o.2;obtain⟨b0,b1,b2,b3,b4,b5⟩:=EM o.1;have ea:(Rx (HM m.vw) p (B9 (A_ s) (AN m.vw p).1,s.la+1,FM (A_ s) (AN m.vw p).1,0) data).ops=[((1:Int),Ao 1 p 0,B1 (B9 (A_ s) (AN m.vw p).1))]++[(s.la+1,data)].map (λz=>((1:Int),Ao 2 p z.1,z.2))++(FM (A_ s) (AN m.vw p).1).map (λn=>((2:Int),Ao 2 p n,([]:Bs))):=by
  simp[Rx,Bl,Oc.op,HM]
 rw[ea]at fa ⊢;show H8 ⟨m.vw,_,m.room⟩;have ma:1<=AT s (AN m.vw p).1:=X9
 have g:Br (A_ s) (AN m.vw p).1<=s.rs.length:=by
  unfold Br;rw[show AT (A_ s) (AN m.vw p).1=AT s (AN m.vw p).1 from rfl];simp only[A_,QB,Qk,Qz];omega
 have db:(B9 (A_ s) (AN m.vw p).1).rs=s.rs.drop (Br (A_ s) (AN m.vw p).1)++[(s.la+1,false,false)]:=by
  show Z9 _ (s.rs++_)=_;rw[Q9 g]
 have qa:FM (A_ s) (AN m.vw p).1=(s.rs.take (Br (A_ s) (AN m.vw p).1)).map (·.1):=by
  show(List.take _ (s.rs++_)).map _=_;rw[List.take_append_of_le_length g]
 have d:=Nc b4;have sa:∀r∈s.rs,r.1<=s.la:=λr hr=>by
  have:=Ot b4 r hr;rw[←CQ,b5]at this;exact this.2
 have ba:∀r∈s.rs,1<=r.1∧r.1<=30:=DO oa;generalize Br (A_ s) (AN m.vw p).1=k at *;generalize lb:B9 (A_ s) (AN m.vw p).1=s' at *;generalize FM (A_ s) (AN m.vw p).1=gone at *;have i:s.rs=s.rs.take k++s.rs.drop k:=(Qx k s.rs).symm;have w:∀n∈gone,∃r∈s.rs.take k,r.1=n:=λn x=>by
  rw[qa]at x;obtain⟨r,q,v⟩:=Qn.1 x;exact⟨r,q,v⟩
 refine tK hF ho hp hr u cb (λz hz=>?_) (λn x=>?_) (λz hz x=>?_) (Qh _) (λr hr=>?_) (λn a b x hy=>?_) fa
 ·rw[Qc.1 hz];exact⟨by show 1<=s.la+1;omega,by show s.la+1<=30;omega⟩
 ·obtain⟨r,q,rfl⟩:=w n x;exact ba r (QI q)
 ·rw[Qc.1 hz]at x;obtain⟨r,q,v⟩:=w _ x;have:=sa r (QI q);simp only at v;omega
 ·rw[db]at hr;rcases Qu.1 hr with hr|hr
  ·have hm:=Q1 hr;have j:r.1∉gone:=λx=>by
    obtain⟨r2,q,v⟩:=w _ x;have e:=eC d (QI q) hm v;subst e;rw[i,Q2]at d;have:=d.2.2 r2 q r2 hr;omega
   rw[if_neg j];have hl:=sa r hm;have e:([(s.la+1,data)]:List (Int×Bs)).find? (λz=>decide (z.1=r.1))=none:=by
    simp only[ZT,Z0];rw[decide_eq_false O]
   rw[e];exact t.1 r hm
  ·rw[Qc.1 hr];have j:s.la+1∉gone:=λx=>by
    obtain⟨r2,q,v⟩:=w _ x;have:=sa r2 (QI q);omega
   simp only;rw[if_neg j];simp
 ·rw[db];by_cases e:n=s.la+1
  ·exact⟨_,Zu _ (Qc.2 rfl),e.symm⟩
  ·obtain⟨y,hy⟩:=hy (by simp only[ZT,Z0];rw[decide_eq_false (λh=>e h.symm)]);obtain⟨r,hr,rfl⟩:=t.2 n y a b hy;rw[i]at hr;rcases Qu.1 hr with hr|hr
   ·exact absurd (by rw[qa];exact Qn.2 ⟨r,hr,rfl⟩) x
   ·exact⟨r,List.mem_append_left _ hr,rfl⟩
end
def TP(ns:List Int)(c N:Nat):∀(l:List Rw)(j:Nat),(D9 ns c N j l).map (·.1)=l.map (·.1)∧∀k∈D9 ns c N j l,∃r∈l,k.1=r.1∧((k=r∧(r.2.2=true∨k=oY c r∧r.1∈CM ns N j l∨(l.Pairwise (λx y=>x.1<y.1)->r.1∉CM ns N j l)))∨(k=oY c r∧r.2.2=false∧r.1∈CM ns N j l))
 |[],j=>⟨rfl,λk h=>Xc⟩
 |x::l,j=>by
  obtain⟨w,b⟩:=TP ns c N l (j+1);unfold D9 CM;by_cases a:Hp ns N j x=true
  ·have p:x.2.2=false:=by
    unfold Hp at a;simp only[Qq,Zk]at a;exact a.2
   rw[if_pos a,if_pos a];refine⟨by rw[QH,QH,uN,w],λk hr'=>?_⟩;rcases Qw.1 hr' with rfl|hr'
   ·exact⟨x,Qj,uN _ _,.inr ⟨rfl,p,Qj⟩⟩
   ·obtain⟨r,i,m,z⟩:=b k hr';refine⟨r,Qg _ i,m,?_⟩;rcases z with ⟨rfl,h|⟨u,f⟩|h⟩|⟨u,f,o⟩
    ·exact .inl ⟨rfl,.inl h⟩
    ·exact .inl ⟨rfl,.inr (.inl ⟨u,Qg _ f⟩)⟩
    ·refine .inl ⟨rfl,.inr (.inr λg=>?_)⟩;rw[QY]at g;rw[Qw,not_or];have:=g.1 k i;exact⟨O,h g.2⟩
    ·exact .inr ⟨u,f,Qg _ o⟩
  ·rw[if_neg a,if_neg a];refine⟨by rw[QH,QH,w],λk hr'=>?_⟩;rcases Qw.1 hr' with rfl|hr'
   ·refine⟨k,Qj,rfl,.inl ⟨rfl,.inr (.inr λg n=>?_)⟩⟩;rw[QY]at g;obtain⟨y,s,e⟩:=LL ns N l (j+1) _ n;have:=g.1 y s;omega
   ·obtain⟨r,i,m,z⟩:=b k hr';refine⟨r,Qg _ i,m,?_⟩;rcases z with ⟨rfl,h|⟨u,f⟩|h⟩|⟨u,f,o⟩
    ·exact .inl ⟨rfl,.inl h⟩
    ·exact .inl ⟨rfl,.inr (.inl ⟨u,f⟩)⟩
    ·exact .inl ⟨rfl,.inr (.inr λg=>h (QY.1 g).2)⟩
    ·exact .inr ⟨u,f,o⟩
def I1(ns:List Int)(N:Nat):∀(l:List Rw)(j:Nat),∀n∈CM ns N j l,∃r∈l,r.1=n∧r.2.2=false
 |[],j,n,h=>Xc
 |x::l,j,n,h=>by
  unfold CM at h;split at h
  ·rename_i a;have p:x.2.2=false:=by
    unfold Hp at a;simp only[Qq,Zk]at a;exact a.2
   rcases Qw.1 h with rfl|h
   ·exact⟨x,Qj,rfl,p⟩
   ·obtain⟨r,u,y⟩:=I1 ns N l (j+1) n h;exact⟨r,Qg _ u,y⟩
  ·obtain⟨r,u,y⟩:=I1 ns N l (j+1) n h;exact⟨r,Qg _ u,y⟩
section
variable{m:Md}{p:Bs}
def UL(hF:H8 m)(k:Tr.Ord m.tr.lst)(hp:Ay p=0)(i:A5 m.vw.ms p≠-1){s s':Sc}(j:Tw s')(x:B5 s' (AN m.vw p).1=false){gone:List Int}(t:aBk m.tr p s.rs)(u:Tw s)
  (hg:∀n∈gone,∃r∈s.rs,r.1=n) (q:∀r'∈s'.rs,∃r∈s.rs,r'.1=r.1∧((r.1∈gone∧r'.2.2=true)∨(r.1∉gone∧r'.2.2=r.2.2))) (f:∀r∈s.rs,r.1∉gone->∃r'∈s'.rs,r'.1=r.1) {e:Int} (g:IF (Dg m.vw p s' gone e).ops):H8 (Ck m (Dg m.vw p s' gone e)).1:=by
 refine CT hF ?_;by_cases c:e≠0
 ·rw[show Dg m.vw p s' gone e=Fz m.vw e from if_pos c];exact hF
 have hw:Dg m.vw p s' gone e=IC (HM m.vw) p s' gone:=if_neg c;rw[hw]at g ⊢;have d:(IC (HM m.vw) p s' gone).ops=[((1:Int),Ao 1 p 0,B1 s')]++([]:List (Int×Bs)).map (λz=>((1:Int),Ao 2 p z.1,z.2))++gone.map (λn=>((2:Int),Ao 2 p n,([]:Bs))):=by
  simp[IC,Bl,Oc.op,HM]
 rw[d]at g ⊢;show H8 ⟨m.vw,_,m.room⟩;refine tK hF k hp i j x (λz hz=>(by cases hz)) (λn w=>?_) (λz hz=>(by cases hz)) (Ql _) (λr' gb=>?_) (λn a b w hy=>?_) g
 ·obtain⟨r,o,rfl⟩:=hg n w;exact DO u r o
 ·obtain⟨r,o,v,⟨h4,h5⟩|⟨h4,h5⟩⟩:=q r' gb
  ·rw[v,if_pos h4,h5];rfl
  ·rw[v,if_neg h4,h5];exact t.1 r o
 ·obtain⟨y,hy⟩:=hy rfl;obtain⟨r,o,rfl⟩:=t.2 n y a b hy;exact f r o w
def SC(hF:H8 m)(v:Tr.Ord m.tr.lst)(g:Ay p=0)(i:A5 m.vw.ms p≠-1){s:Sc}(j:Cc (Gj m.tr p)=some s){ns:List Int}{c:Nat}(hc:c=280∨c=281∨c=282)(q:IF (Dg m.vw p (Bj s ns c).1 (if c=282 then(Bj s ns c).2.1 else []) (Bj s ns c).2.2).ops):
  H8 (Ck m (Dg m.vw p (Bj s ns c).1 (if c=282 then(Bj s ns c).2.1 else []) (Bj s ns c).2.2)).1:=by
 obtain⟨t,b⟩:=PR (hF.sec p g);have ta:=(b s j).2;rw[j]at t;replace t:aBk m.tr p s.rs:=t;have z:=LP j;have x:=z.bad;by_cases hz:s.rs=[]
 ·have e:Bj s ns c=(s,[],6):=by unfold Bj;rw[if_neg (by rw[x];decide),if_pos hz]
  rw[e];refine CT hF ?_;rw[show Dg m.vw p (s,([]:List Int),(6:Int)).1 (if c=282 then((s,([]:List Int),(6:Int)):Sc×List Int×Int).2.1 else []) (6:Int)=Fz m.vw 6 from if_pos V];exact hF
 have e:Bj s ns c=({s with rs:=D9 ns c s.rs.length 0 s.rs},CM ns s.rs.length 0 s.rs,0):=by unfold Bj;rw[if_neg (by rw[x];decide),if_neg hz]
 rw[e]at q ⊢;obtain⟨t1,t2⟩:=TP ns c s.rs.length s.rs 0;have va:=I1 ns s.rs.length s.rs 0;have d:=Nc (L4 x).2.2.2.2.1;have pa:s.nl=false:=by cases h:s.nl with|true=>exact absurd (z.nl h) hz|false=>rfl
 have lb:Tw {s with rs:=D9 ns c s.rs.length 0 s.rs}:=⟨by rw[iM t1];exact x,λh=>by simp only at h;rw[pa]at h;cases h⟩;have k:B5 {s with rs:=D9 ns c s.rs.length 0 s.rs} (AN m.vw p).1=false:=by rw[iM t1];exact ta
 refine UL hF v g i lb k t z (λn w=>?_) (λr' gb=>?_) (λr ia _=>?_) q
 ·by_cases h:c=282
  ·rw[if_pos h]at w;obtain⟨r,u,f,_⟩:=va n w;exact⟨r,u,f⟩
  ·rw[if_neg h]at w;cases w
 ·obtain⟨r,u,f,o⟩:=t2 r' gb;refine⟨r,u,f,?_⟩;by_cases h:c=282
  ·rw[if_pos h];rcases o with ⟨rfl,h4|⟨h4,h5⟩|h4⟩|⟨h4,h5,h6⟩
   ·refine .inr ⟨λhm=>?_,rfl⟩;obtain⟨y,y1,y2,y3⟩:=va _ hm;have:=eC d y1 u y2;subst this;rw[h4]at y3;cases y3
   ·refine .inl ⟨h5,?_⟩;rw[h4];unfold oY;subst h;rfl
   ·exact .inr ⟨h4 d,rfl⟩
   ·refine .inl ⟨h6,?_⟩;rw[h4];unfold oY;subst h;rfl
  ·rw[if_neg h];refine .inr ⟨ZP,?_⟩;have a:r.2.2=false->(oY c r).2.2=false:=λ_=>by
    unfold oY;split
    ·rfl
    split
    ·rfl
    ·omega
   rcases o with ⟨rfl,_⟩|⟨h4,h5,_⟩
   ·rfl
   ·rw[h4,a h5,h5]
 ·have hm:r.1∈(D9 ns c s.rs.length 0 s.rs).map (·.1):=by rw[t1];exact Qn.2 ⟨r,ia,rfl⟩
  obtain⟨r',u,f⟩:=Qn.1 hm;exact⟨r',u,f⟩
def aD1(hF:H8 m)(ho:Tr.Ord m.tr.lst)(hp:Ay p=0)(hr:A5 m.vw.ms p≠-1){j:Int}{cas:Bool}(fa:IF (Dg m.vw p (Cy (EB (Cc (Gj m.tr p))) (AN m.vw p).1 j cas).1 (Cy (EB (Cc (Gj m.tr p))) (AN m.vw p).1 j cas).2.1 (Cy (EB (Cc (Gj m.tr p))) (AN m.vw p).1 j cas).2.2).ops):
  H8 (Ck m (Dg m.vw p (Cy (EB (Cc (Gj m.tr p))) (AN m.vw p).1 j cas).1 (Cy (EB (Cc (Gj m.tr p))) (AN m.vw p).1 j cas).2.1 (Cy (EB (Cc (Gj m.tr p))) (AN m.vw p).1 j cas).2.2)).1:=by
 have oa:=Er (Gj m.tr p);obtain⟨da,_⟩:=PR (hF.sec p hp);generalize EB (Cc (Gj m.tr p))=s at *;by_cases hc:B5 s (AN m.vw p).1=true∨¬(0<=j∧j<=6)
 ·have e:Cy s (AN m.vw p).1 j cas=(s,[],2):=if_pos hc;rw[e];refine CT hF ?_;rw[show Dg m.vw p (s,([]:List Int),(2:Int)).1 ([]:List Int) (2:Int)=Fz m.vw 2 from if_pos V];exact hF
 have e:Cy s (AN m.vw p).1 j cas=(B9 {s with mx:=j,cas:=cas} (AN m.vw p).1,FM {s with mx:=j,cas:=cas} (AN m.vw p).1,0):=if_neg hc;rw[e]at fa ⊢;rw[not_or,Decidable.not_not]at hc;have o:B5 s (AN m.vw p).1=false:=by simpa using hc.1
 have c:=hc.2;obtain⟨b0,b1,b2,b3,b4,b5⟩:=EM o;generalize f:(AN m.vw p).1=q at *;have ma:1<=AT {s with mx:=j,cas:=cas} q∧AT {s with mx:=j,cas:=cas} q<=6∧(j≠0->AT {s with mx:=j,cas:=cas} q=j):=by
  unfold AT;simp only;split
  ·exact⟨b0.1,b0.2,λh=>absurd ‹_› h⟩
  ·exact⟨O,c.2,λ_=>rfl⟩
 have t:(B9 {s with mx:=j,cas:=cas} q).rs=s.rs.drop (Br {s with mx:=j,cas:=cas} q):=rfl;have qa:FM {s with mx:=j,cas:=cas} q=(s.rs.take (Br {s with mx:=j,cas:=cas} q)).map (·.1):=rfl;have ca:(s.rs.drop (Br {s with mx:=j,cas:=cas} q)).length<=(AT {s with mx:=j,cas:=cas} q).toNat:=by
  rw[Zn];unfold Br;simp only;omega
 have d:=Nc b4;have a:=Nd (Br {s with mx:=j,cas:=cas} q) (Q6 0) b4;have ga:GN (s.rs.drop (Br {s with mx:=j,cas:=cas} q))=s.la:=by
  have e3:GN (s.rs.drop (Br {s with mx:=j,cas:=cas} q))=GN s.rs:=by
   rw[CQ,CQ];by_cases hz:s.rs=[]
   ·rw[hz];simp
   ·have ea:Br {s with mx:=j,cas:=cas} q<s.rs.length:=by
     have:=List.length_pos_iff.2 hz;unfold Br;simp only;omega
    rw[List.getLast?_drop,if_neg O]
  exact e3.trans b5
 have b:(B9 {s with mx:=j,cas:=cas} q).nl=true->(B9 {s with mx:=j,cas:=cas} q).rs=[]:=λh=>by rw[t,oa.nl h,List.drop_nil]
 have pb:∀x,1<=x∧x<=6->(x=q∨x=6)->B5 (B9 {s with mx:=j,cas:=cas} q) x=false:=λx w g=>by
  have e1:(B9 {s with mx:=j,cas:=cas} q).mx=j:=rfl;have z:(B9 {s with mx:=j,cas:=cas} q).la=s.la:=rfl;have xa:¬AT (B9 {s with mx:=j,cas:=cas} q) x<((s.rs.drop (Br {s with mx:=j,cas:=cas} q)).length:Int):=by
   have h6:AT (B9 {s with mx:=j,cas:=cas} q) x=if j=0 then x else j:=rfl
   rw[h6];have h7:AT {s with mx:=j,cas:=cas} q=if j=0 then q else j:=rfl
   rw[h7]at ca ma;split
   ·rename_i h0;rw[if_pos h0]at ca;rcases g with rfl|rfl<;>omega
   ·rename_i h0;rw[if_neg h0]at ca;omega
  unfold B5;rw[t,a,ga,e1,z,decide_eq_true w,decide_eq_true c,decide_eq_true b2,decide_eq_true (rfl:s.la=s.la),decide_eq_false xa];rfl
 generalize Br {s with mx:=j,cas:=cas} q=k at *;generalize B9 {s with mx:=j,cas:=cas} q=s' at *;generalize FM {s with mx:=j,cas:=cas} q=gone at *;have i:s.rs=s.rs.take k++s.rs.drop k:=(Qx k s.rs).symm;refine UL hF ho hp hr ⟨pb 6 V (.inr rfl),b⟩ (by rw[f];exact pb q b0 (.inl rfl)) da oa (λn v=>?_) (λr' gb=>?_) (λr ia v=>?_) fa
 ·rw[qa]at v;obtain⟨r,u,y⟩:=Qn.1 v;exact⟨r,QI u,y⟩
 ·rw[t]at gb;have hm:=Q1 gb;refine⟨r',hm,rfl,.inr ⟨λv=>?_,rfl⟩⟩;rw[qa]at v;obtain⟨r2,u,y⟩:=Qn.1 v;rw[i,Q2]at d;have:=d.2.2 r2 u r' gb;omega
 ·rw[t];rw[i]at ia;rcases Qu.1 ia with h|h
  ·exact absurd (by rw[qa];exact Qn.2 ⟨r,h,rfl⟩) v
  ·exact⟨r,h,rfl⟩
def zE(hF:H8 m)(v:Tr.Ord m.tr.lst)(hp:Ay p=0){s:Sc}(j:Cc (Gj m.tr p)=some s){rep:Bs}(fa:IF ({D6 (HM m.vw) p s.rs with rep:=rep}:Oc).ops):H8 (Ck m {D6 (HM m.vw) p s.rs with rep:=rep}).1:=by
 refine CT hF ?_;obtain⟨c,_⟩:=PR (hF.sec p hp);rw[j]at c;replace c:aBk m.tr p s.rs:=c;have z:=LP j;have d:({D6 (HM m.vw) p s.rs with rep:=rep}:Oc).ops=[((2:Int),Ao 1 p 0,([]:Bs))]++(Dd s.rs).map (λn=>((2:Int),Ao 2 p n,([]:Bs))):=by
  simp[D6,Bl,Oc.op,HM]
 rw[d]at fa ⊢;show H8 ⟨m.vw,_,m.room⟩;have va:∀n∈Dd s.rs,1<=n∧n<=30:=λn w=>by
  obtain⟨x,hx,rfl⟩:=Qn.1 w;exact DO z x (QN.1 hx).1
 have g:Tr.Ord (DT (2,Ao 1 p 0,[]) m.tr).lst:=(DS _ v).1;have h0:∀q,(DT (2,Ao 1 p 0,[]) m.tr).get q=if q=Ao 1 p 0 then none else m.tr.get q:=λq=>by rw[PU,Tr.get_del v]
 have ht:Bg ([((2:Int),Ao 1 p 0,([]:Bs))]++(Dd s.rs).map (λn=>((2:Int),Ao 2 p n,([]:Bs)))) m.tr=Bg ((Dd s.rs).map (λn=>((2:Int),Ao 2 p n,([]:Bs)))) (DT (2,Ao 1 p 0,[]) m.tr):=by
  rw[Nj];rfl
 refine tJ hF v (p:=p) fa (λx hx=>?_) (.inl ⟨?_,λn a b=>?_⟩)
 ·rcases Qu.1 hx with hx|hx
  ·rw[Qc.1 hx];exact⟨XG,by rw[BH (L9 hp)]⟩
  ·obtain⟨n,w,rfl⟩:=Qn.1 hx;exact⟨XG,by rw[BH (Oo hp (va n w))]⟩
 ·rw[ht,GY (f:=λn=>Ao 2 p n) _ g (λn w=>OC hp (va n w)),h0,if_pos rfl]
 ·rw[ht];by_cases w:n∈Dd s.rs
  ·exact F7 (f:=λn=>Ao 2 p n) _ g w
  ·rw[GY (f:=λn=>Ao 2 p n) _ g (λk u e=>w (by rw[←aDt hp (va k u) ⟨a,b⟩ e];exact u)),h0,if_neg (OC hp ⟨a,b⟩)];cases hg:m.tr.get (Ao 2 p n)with
   |none=>rfl
   |some y=>
    obtain⟨r,i,rfl⟩:=c.2 n y a b hg;have:=c.1 r i;rw[hg]at this;have o:r.2.2=false:=by simpa using this.symm
    exact absurd (Qn.2 ⟨r,QN.2 ⟨i,by rw[o];rfl⟩,rfl⟩) w
end
def key1{p:Bs}(g:Ay p=0):Ao 1 p 0=[109,47]++p:=by
 unfold Ao;rw[if_neg (λe=>e (L9 g)),if_pos rfl]
def aWG{p:Bs}{n:Int}(g:Ay p=0)(w:1<=n∧n<=30):Ao 2 p n=[100,47]++p++[0,UInt8.ofNat (IntKind.u8.wrap n).toNat]:=by
 unfold Ao;rw[if_neg (λe=>e (Oo g w)),if_neg V,if_pos rfl]
def L0{a b:UInt8}{s p:Bs}:A7 ([a,b]++s) ([a,b]++p)=A7 s p:=by
 show A7 (a::b::s) (a::b::p)=_;rw[Dz,Dz];simp
def PY{a b c:UInt8}{s p:Bs}(h:a≠c):A7 ([a,b]++s) ([c,b]++p)=false:=by
 show A7 (a::b::s) (c::b::p)=_;rw[Dz,decide_eq_false h];rfl
def UD{p z:Bs}(v:z≠[]):A7 p (z++[47])=Bo p z:=by
 rw[ZU,EG,Fd v];constructor
 ·rintro⟨r,rfl⟩;exact⟨r,U⟩
 ·rintro⟨r,rfl⟩;exact⟨r,U⟩
def fO{p z:Bs}{c:UInt8}(v:Ay z=0):A7 (p++[0,c]) (z++[47])=Bo p z:=by
 have d:(0:UInt8)∉z:=λh=>by have:=(RX v 0 h).1;simp at this
 rw[ZU,EG,Fd (LR v)];constructor
 ·rintro⟨r,e⟩;rw[QG]at e;rcases Zj.1 e with ⟨x,m,n⟩|⟨x,m,n⟩
  ·cases x with
   |nil=>simp at n
   |cons y x=>
    simp only[Qe,Qf,QO]at n;exact absurd (by rw[m,←n.1];simp) d
  ·cases x with
   |nil=>simp at n
   |cons y x=>
    simp only[Qe,Qf,QO]at n;exact⟨x,by rw[m,←n.1]⟩
 ·rintro⟨r,rfl⟩;exact⟨r++[0,c],U⟩
def g4:Ax (Ao 4 [] 0)=(4,[],0):=rfl
def g5:Ax (Ao 5 [] 0)=(5,[],0):=rfl
section
variable{m:Md}
def zF(z:H8 m)(o:MZ m){j:List Mt}{x:Mt}(e:(FH m.vw.ms x).1=some j)(n:IF (Mb (HM m.vw) false j).ops):H8 (Ck m (Mb (HM m.vw) false j)).1:=by
 refine CT z ?_;have k:=o.tr.ord;have hi:=z.mts.add o.vw.srt e;have t:=(uX o.vw.srt e).1;have d:(Mb (HM m.vw) false j).ops=[((1:Int),Ao 4 [] 0,BL j)]:=Ye
 rw[d]at n ⊢;refine⟨PX k z.key n,λp g=>I4 g (z.sec p g) (λq c e2 _=>L1 k λx w=>?_) (λh=>?_),hi,z.kl⟩
 ·rw[Qc.1 w];unfold Tj;rw[if_neg (show ¬((1:Int)=3)by decide)];rintro rfl;rw[g4]at e2;rcases e2 with e2|e2<;>cases e2
 ·obtain⟨a,r,f,i⟩:=Me.get h;obtain⟨u,y⟩:=bJ (v:=(Mb (HM m.vw) false j).vw) hi ((t a).2 (.inl r)) f;exact⟨u,by rw[i];exact congrArg Y7 y⟩
def fX(j:H8 m)(hM:MZ m){z:Bs}(ht:Ay z=0)(hf:0<=BE m.vw.ms z){nl:Bool}(g:IF (qX (HM m.vw) nl (DP m.vw.ms z) z).ops):H8 (Ck m (qX (HM m.vw) nl (DP m.vw.ms z) z)).1:=by
 refine CT j ?_;have ho:=hM.tr.ord;have hi:=j.mts.rem z;have f:=LR ht;have k:(qX (HM m.vw) nl (DP m.vw.ms z) z).ops=[((1:Int),Ao 4 [] 0,BL (DP m.vw.ms z)),(3,[109,47]++z++[47],[]),(3,[100,47]++z++[47],[])]:=Ya
 rw[k]at g ⊢;refine⟨PX ho j.key g,λp s=>?_,hi,j.kl⟩;cases hb:Bo p z with
 |true=>
  refine .inl ⟨?_,λn a b=>?_⟩
  ·show(Bg _ m.tr).get _=none;rw[Hr _ ho,key1 s];have u:A7 ([109,47]++p) ([109,47]++z++[47])=true:=by rw[QG,L0,UD f,hb]
   have y:A7 ([109,47]++p) ([100,47]++z++[47])=false:=YP
   simp only[R5,yD,u,y];simp
  ·show(Bg _ m.tr).get _=none;rw[Hr _ ho,aWG s ⟨a,b⟩];have u:A7 ([100,47]++p++[0,UInt8.ofNat (IntKind.u8.wrap n).toNat]) ([109,47]++z++[47])=false:=by rw[QG,QG];exact PY V
   have y:A7 ([100,47]++p++[0,UInt8.ofNat (IntKind.u8.wrap n).toNat]) ([100,47]++z++[47])=true:=YQ
   simp only[R5,yD,u,y];simp
 |false=>
  refine I4 s (j.sec p s) (λq e1 e2 o=>L1 ho λx w=>?_) (λh=>?_)
  ·have hq:=Uy o;have d:A7 q ([109,47]++z++[47])=false∧A7 q ([100,47]++z++[47])=false:=by
    rw[←hq,e1];rcases e2 with e2|e2
    ·rw[e2]at o ⊢;have hn:(Ax q).2.2=0:=by
      unfold Bx at o;rw[if_pos rfl]at o;split at o
      ·rename_i c;exact c.1
      ·cases o
     rw[hn,key1 s];exact⟨by rw[QG,L0,UD f,hb],YP⟩
    ·rw[e2]at o ⊢;have hn:1<=(Ax q).2.2∧(Ax q).2.2<=30:=by
      unfold Bx at o;rw[if_neg V,if_pos rfl]at o;split at o
      ·rename_i c;exact⟨c.1,c.2.1⟩
      ·cases o
     rw[aWG s hn];exact⟨by rw[QG,QG];exact PY V,YQ⟩
   unfold Tj;simp only[Qw,ZQ,or_false]at w;rcases w with rfl|rfl|rfl
   ·rw[if_neg (show ¬((1:Int)=3)by decide)];rintro rfl;rw[g4]at e2;rcases e2 with e2|e2<;>cases e2
   ·rw[if_pos rfl];exact d.1
   ·rw[if_pos rfl];exact d.2
  ·obtain⟨a,r,na,i⟩:=Me.get h;have t:a.1≠z:=λe=>by rw[e,hb]at na;cases na
   obtain⟨u,y⟩:=bJ (v:=(qX (HM m.vw) nl (DP m.vw.ms z) z).vw) hi (aII hf r t) na;exact⟨u,by rw[i];exact congrArg Y7 y⟩
end
def KnT(t:Tr)(k:Kn):Prop:=∀q,(CU k q).2.2=true->CU k q=((t.get q).getD [],(t.get q).isSome,true)
def aWF(t:Tr):KnT t kn0:=λq h=>by rw[aZa]at h;cases h
def KnT.learn{t:Tr}{k:Kn}(h:KnT t k)(q:Bs)(li:Bool):KnT t (A2 k q li (Ft t q)):=λm z=>by
 cases li with
 |true=>
  rw[fF]at z ⊢;exact h m z
 |false=>
  rw[zN]at z ⊢;by_cases e:q=m
  ·subst e;rw[if_pos rfl]
  ·rw[if_neg e]at z ⊢;exact h m z
def aBX{dec:Kn->Oc}{t:Tr}:∀(f:Nat){k:Kn},KnT t k->∃z,KnT t z∧Vx dec t f k=dec z
 |0,k,h=>⟨k,h,rfl⟩
 |f+1,k,h=>by
  unfold Vx;split
  ·exact⟨k,h,rfl⟩
  ·exact aBX f (h.learn _ _)
def aCp{m:Md}(n:MZ m){a:Ak}{dec:Kn->Oc}(X:Ip m.vw a dec):∃k,KnT m.tr k∧Fq dec m=dec k∧(dec k).need=[]:=by
 obtain⟨k,u,y⟩:=aBX (dec:=dec) 4 (aWF m.tr);exact⟨k,u,y,by rw[←y];exact(Ow n X).1⟩
def sJ{t:Tr}{k:Kn}(h:KnT t k){p:Bs}(g:(AJ k p).2.2≠false):AJ k p=Gj t p:=h _ (by simpa[AJ]using g)
def Ug{v:Vw}{a:Ak}(h:FJ v a=0)(x:9<=a.op)(t:a.op≠17):A5 v.ms a.pa≠-1∧(a.op=18->A5 v.ms a.ot≠-1):=by
 unfold FJ at h;by_cases d:Cl a≠0
 ·rw[if_pos d]at h;exact absurd h d
 rw[if_neg d,if_neg O,if_neg O]at h;by_cases j:v.se=true
 ·rw[if_pos j]at h;cases h
 rw[if_neg j]at h;by_cases g:R2 v a=false
 ·rw[if_pos g]at h;cases h
 rw[if_neg g]at h;by_cases n:Hk v a=false
 ·rw[if_pos n]at h;cases h
 have n:Hk v a=true:=by simpa using n
 unfold Hk at n;rw[decide_eq_false (show ¬a.op<=8 by omega),decide_eq_false t]at n;simp only[Bool.false_or,ZX,Qq,decide_eq_true_eq,Bool.or_eq_true]at n;exact⟨n.1,λe=>n.2.resolve_left (λh=>h e)⟩
def DX{m:Md}(z:H8 m){o:Oc}(u:o.ops=[])(y:o.vw.ms=m.vw.ms)(r:o.vw.ks=m.vw.ks):H8 (Ck m o).1:=by
 refine CT z ?_;rw[u];refine⟨z.key,λp g=>I4 g (z.sec p g) (λ_ _ _ _=>rfl) (λh=>?_),by rw[show(⟨o.vw,Bg [] m.tr,m.room⟩:Md).vw=o.vw from rfl,y];exact z.mts,by rw[show(⟨o.vw,Bg [] m.tr,m.room⟩:Md).vw=o.vw from rfl,r];exact z.kl⟩;show A5 o.vw.ms p≠-1∧(AN o.vw p).1=(AN m.vw p).1;unfold AN;rw[y];exact⟨h,rfl⟩
def aJP{m:Md}(j:H8 m)(c:MZ m){a:Ak}{o:Oc}(h:PJ m.vw a o)(g:IF o.ops):H8 (Ck m o).1:=by
 have ho:=c.tr.ord;cases h with
 |fail e=>exact DX j rfl rfl rfl
 |flag o b q y=>exact DX j q (by rw[y]) (by rw[y])
 |rot h=>
  refine CT j (Wa j ho g (λx p=>?_) rfl j.kl);simp only[dG,Oc.op,HM,Qf,Qc]at p;rw[p,g5];exact⟨Xy,V,V⟩
 |mnt f e=>exact zF j c e g
 |unm k r=>exact fX j c k r g
 |mak f e v z h=>
  refine CT j (Wa j ho g (λx p=>?_) rfl ?_)
  ·simp only[mkO,PW,Oc.op,HM,Qf,Qc]at p;rw[p,BH (xT (GB z))];exact⟨Xy,by show(3:Int)≠1;decide,by show(3:Int)≠2;decide⟩
  ·show f.length<=24;rw[v,Fe];omega
 |rev nl r=>
  refine CT j (Wa j ho g (λx p=>?_) rfl ?_)
  ·simp only[RZ,Dl,PW,HM,Qf]at p;obtain⟨n,w,rfl⟩:=Qn.1 p;have i:BJ n=true:=by
    have:=P0 (M9 w);obtain⟨u,d,e⟩:=DA r;rcases Qw.1 this with rfl|h
    ·rw[←e];exact c.vw.inv.name u d
    ·obtain⟨t,s,rfl⟩:=Qn.1 h;exact c.vw.inv.name t s
   rw[BH (xT i)];exact⟨XG,by show(3:Int)≠1;decide,by show(3:Int)≠2;decide⟩
  ·exact Qd (Zt _ _) j.kl
def aYc(v:Vw)(a:Ak)(dec:Kn->Oc):Prop:=(FJ v a≠0->∀k,dec k=Fz v (FJ v a))∧(FJ v a=0->(a.op<=8∧∀k,PJ v a (dec k))∨(a.op=17∧dec=Mm v a)∨(Ay a.pa=0∧(a.op=18->Ay a.ot=0)∧((a.op=9∨a.op=18)∧dec=CD v a∨(10<=a.op∧a.op<=16)∧dec=Co v a)))
def aJQ{m:Md}(hM:MZ m)(z:H8 m){a:Ak}(hI:IV a):∃dec,Ip m.vw a dec∧aYc m.vw a dec∧H8 (Ck m (Fq dec m)).1:=by
 obtain⟨dec,X,o,u⟩:=aJV hM.vw hI;refine⟨dec,X,⟨o,u⟩,?_⟩;obtain⟨w,k0,x,f⟩:=Ow hM X;have q:IF (Fq dec m).ops:=UE (by rw[f];exact X.rep k0 x (by rw[←f];exact w));have v:=hM.tr.ord;by_cases i:FJ m.vw a≠0
 ·rw[f,o i];exact DX z rfl rfl rfl
 have i:=Decidable.not_not.1 i;obtain⟨k,g,e,p⟩:=aCp hM X;rw[e]at q ⊢;rcases u i with ⟨h8,n⟩|⟨t,rfl⟩|⟨j,d,⟨h9,rfl⟩|⟨la,rfl⟩⟩
 ·exact aJP z hM (n k) q
 ·unfold Mm at p ⊢;split at p
  ·exact absurd p (by simp[Dy])
  ·rename_i c;rw[if_neg c];exact DX z rfl rfl rfl
 ·have b:=Ug i O O;unfold CD at p q ⊢;split at p
  ·exact absurd p (Hm (L9 j))
  rename_i c1;rw[if_neg c1]at q ⊢;split at p
  ·rename_i c2;rw[if_pos c2];exact DX z rfl rfl rfl
  rename_i c2;rw[if_neg c2]at q ⊢;split at p
  ·rename_i r;rw[if_pos r];exact DX z rfl rfl rfl
  rename_i r;rw[if_neg r]at q ⊢;split at p
  ·have y:1<=(Fo k a).1.1∧(Fo k a).1.1<=30:=dQ (Er _) (Decidable.not_not.1 r);exact absurd p (Hm (Oo j y))
  rename_i c4;rw[if_neg c4]at q ⊢;split at p
  ·rename_i c5;rw[if_pos c5];exact DX z rfl rfl rfl
  rename_i c5;rw[if_neg c5]at q ⊢;have ra:a.op=18:=O
  split at p
  ·exact absurd p (Hm (L9 (d ra)))
  rename_i c6;rw[if_neg c6]at q ⊢;rw[sJ g c6]at q ⊢;exact UK z v (d ra) (b.2 ra) q
 ·have b:=(Ug i O O).1;unfold Co at p q ⊢;split at p
  ·exact absurd p (Hm (L9 j))
  rename_i c1;rw[if_neg c1]at q ⊢;rw[sJ g c1]at p q ⊢;split at p
  ·rename_i c2;rw[if_pos c2]at q ⊢;exact UK z v j b q
  rename_i c2;rw[if_neg c2]at q ⊢;split at p
  ·rename_i r;rw[if_pos r]at q ⊢;exact aD1 z v j b q
  rename_i r;rw[if_neg r]at q ⊢;cases n:Cc (Gj m.tr a.pa)with
  |none=>exact DX z rfl rfl rfl
  |some s=>
   rw[n]at q;simp only at q ⊢;by_cases wa:a.op=14
   ·rw[if_pos wa];exact DX z rfl rfl rfl
   rw[if_neg wa]at q ⊢;by_cases ta:a.op=16
   ·rw[if_pos ta]at q ⊢;exact zE z v j n q
   rw[if_neg ta]at q ⊢;by_cases na:a.op=11
   ·rw[if_pos na]at q ⊢;exact SC z v j b n (c:=280) (.inl rfl) q
   rw[if_neg na]at q ⊢;by_cases ja:a.op=12
   ·rw[if_pos ja]at q ⊢;exact SC z v j b n (c:=281) (.inr (.inl rfl)) q
   rw[if_neg ja]at q ⊢;exact SC z v j b n (c:=282) (.inr (.inr rfl)) q
def MK:∀x∈firstE.lst,Bx (Ax x.1).1 (Ax x.1).2.1 (Ax x.1).2.2=0∧(Ax x.1).1≠1∧(Ax x.1).1≠2:=Xf
def aI7(r:Int):H8 (Nr Nw (300+r)):=by
 have z:∀q x,firstE.get q=some x->(q,x)∈firstE.lst:=λq x h=>by
  rw[Tr.get_lst q _ OM]at h;exact Tr.getL_some h
 refine⟨λq x h=>(MK _ (z q x h)).1,λp g=> .inl ⟨?_,λn a b=>?_⟩,⟨λa t=>(by cases t),List.Pairwise.nil⟩,by show 1<=24;decide⟩
 ·show firstE.get _=none;cases h:firstE.get (Ao 1 p 0)with
  |none=>rfl
  |some x=>
   have:=(MK _ (z _ x h)).2.1;simp only[BH (L9 g)]at this;exact absurd rfl this
 ·show firstE.get _=none;cases h:firstE.get (Ao 2 p n)with
  |none=>rfl
  |some x=>
   have:=(MK _ (z _ x h)).2.2;simp only[BH (Oo g ⟨a,b⟩)]at this;exact absurd rfl this
def yO(x:Bs×Bs):Int:=(Ax x.1).1
end Go.Vd
namespace Go.Vd
open Go.RowKit
def aUn{l n:Nat}{P:Program}{o:Oper}{a:Act}{w:World}{K k:Act->World->Prop}{Q:Exit->Act->World->Prop}(i:∀c,o.op≠ .defer c)(h:o.wp P a w K Q)(p:∀a w,K a w->k a w)(q:¬LetsOut Q):
  o.wpIn (Fence.wide.inRound l) n P a w k Q:=by
 refine⟨λ_ _=>trivial,?_⟩;rw[show(Fence.wide.inRound l).round=some l from rfl,Oper.semAt_eq _ _ _ i];unfold Oper.wp at h;generalize (execOp a.eval o).run P w=r at h;cases r with
 |ok x w'=>
  cases x with
  |value v=>exact p _ _ h
  |skip=>exact p _ _ h
  |defer d=>exact p _ _ h
  |enter f args=>
   refine⟨λz=>absurd z ZH,?_⟩;have y:CallsIn (Fence.wide.inRound l) (n-1) P f args w' _:=(callsIn_wide (n:=n-1)).2 h;refine y.mono ?_;intro e t j;cases e with
   |returned v=>exact p _ _ j
   |panicked m=>exact j
   |outgrown=>exact j
  |row row args=>
   refine⟨λz=>absurd z ZH,λc cs _=>?_⟩;obtain⟨v,t,r,s⟩:=h c cs;exact⟨v,t,p _ _ r,stepsIn_wide.2 s⟩
  |_=>exact h.elim
 |halt x w'=>
  cases x with
  |panic v=>exact h
  |_=>exact h.elim
def R4{l n:Nat}{P:Program}{ops:Array Oper}{Q:Exit->Act->World->Prop}(f:∀(i:Nat) o,ops[i]?=some o->∀c,o.op≠ .defer c)(d:¬LetsOut Q):∀(e:List Nat)(a:Act)(w:World),wpOps P ops Q e a w->wpOpsIn (Fence.wide.inRound l) n P ops Q e a w
 |[],a,w,h=>h
 |i::e,a,w,h=>by
  simp only[wpOps]at h;simp only[wpOpsIn];cases ho:ops[i]? with
  |none=>rw[ho]at h;exact R4 f d e a w h
  |some o=>
   rw[ho]at h;simp only at h ⊢;split at h
   ·rename_i k;rw[if_pos k];rcases h with h|⟨_,h⟩
    ·exact aUn (f i o ho) h (λa w=>R4 f d e a w) d
    ·exact absurd h d
   ·rename_i k;rw[if_neg k];exact⟨λ_ _=>trivial,R4 f d e _ w h⟩
section
variable{P:Program}{B:Nat}{w0:World}{N:Nat}{ns:Id}{S:HD}{l n:Nat}
def rU{v q:St}{w:World}{g:Gh}{e:Ex}:¬LetsOut (aA3 P B w0 N ns v w g e q):=by
 rintro⟨a,w',h,_⟩;cases e<;>cases h
def bT:Code->Bool
 | .region _ ops _=>ops.toList.all λo=>match o.op with| .defer _=>false|_=>true
 | .seq a b=>bT a&&bT b
 | .cond _ a b=>bT a&&bT b
 | .block _ c=>bT c
 | .loop c=>bT c
 |_=>true
def aCG{id:Nat}{ops:Array Oper}{k:Bool}(h:bT (.region id ops k)=true)(i:Nat)(o:Oper)(v:ops[i]?=some o)(c:Call):o.op≠ .defer c:=by
 intro e;have n:o∈ops.toList:=Array.mem_toList_iff.2 (Array.mem_of_getElem? v);have:=ZR.1 h o n;rw[e]at this;cases this
def aWP(hS:HD.ok P S):∀(ca:Code)(dc:DC),Bh P N ca=some dc->bT ca=true->∀(st:St)(e:Ex)(fa:St),Ev S ns dc st e fa->∀(a:Act)(w:World)(g:Gh),Holds P B w0 N ns st a w g->
  ca.wpIn (Fence.wide.inRound l) n P (aA3 P B w0 N ns st w g e fa) a w:=by
 intro ca;induction ca with
 |skip=>
  intro dc ba ja st e fa aa a w g hx;simp only[Bh,Qy]at ba;subst ba;obtain⟨rfl,rfl⟩:=aa;exact wpIn_skip ⟨rfl,g,hx,H5.refl w g,E0.refl _ _ _⟩
 |ret=>
  intro dc ba ja st e fa aa a w g hx;simp only[Bh,Qy]at ba;subst ba;obtain⟨rfl,rfl⟩:=aa;exact wpIn_ret ⟨rfl,g,hx,H5.refl w g,E0.refl _ _ _⟩
 |exit i=>
  intro dc ba ja st e fa aa a w g hx;simp only[Bh,Qy]at ba;subst ba;obtain⟨rfl,rfl⟩:=aa;exact wpIn_exit ⟨rfl,g,hx,H5.refl w g,E0.refl _ _ _⟩
 |region id ops ta=>
  intro dc ba ja st e fa aa a w g hx;cases ta with
  |false=>
   simp only[Bh,QE]at ba;obtain⟨ha,ea,rfl⟩:=ba;obtain⟨rfl,he,hc⟩:=aa;rw[Lq,Lr S ns st.c ha ha 0 _ _ rfl,←Za]at he;have hl:ha.length=ops.size:=by simpa using (CX ea).1
   refine wpIn_region (R4 (aCG ja) rU _ a w ?_);rw[←hl];have h0:below 0=λ_=>false:=X7
   refine Fk hS ea (List.range ha.length) (below 0) st.s st.m a w g fa.s fa.m ?_ he (hx.start _) (λa' w' g' h1 h2 h3=>⟨rfl,g',?_,h2,h3⟩)
   ·rw[Za];exact SB _ 0
   ·rw[Za,Pr]at h1;rw[Nat.zero_add]at h1;unfold Holds;rw[hc,Qs];exact h1.done
  |true=>
   simp only[Bh]at ba;obtain⟨ha,da,ea,hb,hs,ka,rfl⟩:=Nq ba;obtain⟨rfl,⟨f,he,hf⟩,hc⟩:=aa;rw[Hu]at he;refine wpIn_region_draw (λt=>R4 (aCG ja) rU _ a _ ?_);obtain⟨g1,g2⟩:=Mj ea hb ka (P.follows .mixedOrders) t;have z:=RH (c:=st.c) (ns:=ns) hS hb hs he hf g1 g2;have pa:InS P B w0 N ns st.c st.s st.m a w.drew g:=⟨hx.inv.drew,λt=>(hx.slots t).ext (H5.drew w g),hx.size,hx.defers,hx.fresh⟩;refine Fk hS ea _ (λ_=>false) st.s st.m a w.drew g fa.s fa.m (OL g1) z (pa.start _) (λa' w' g' h1 h2 h3=>⟨rfl,g',?_,(H5.drew w g).trans h2,h3⟩);unfold Holds;rw[hc,Qs];rw[g2]at h1;exact h1.done
 |seq x y u va=>
  intro dc ba ja st e fa aa a w g hx;obtain⟨wa,qa⟩:bT x=true∧bT y=true:=by simpa[bT]using ja
  simp only[Bh]at ba;split at ba
  ·rename_i dx dy h1 h2;simp only[Qy]at ba;subst ba;obtain⟨e1,ia,d,na⟩:=aa;have za:=u dx h1 wa st e1 ia d a w g hx;refine wpIn_seq (wpIn_mono za ?_);rintro e' a' w' ⟨rfl,g',hh,b,ma⟩;rcases na with ⟨rfl,p⟩|⟨ga,rfl,rfl⟩
   ·exact wpIn_mono (va dy h2 qa ia e fa p a' w' g' hh) (λya ab oa h=>h.trans b ma)
   ·cases e with
    |normal=>exact absurd rfl ga
    |ret=>exact⟨rfl,g',hh,b,ma⟩
    |exit i=>exact⟨rfl,g',hh,b,ma⟩
  ·cases ba
 |cond c x y u va=>
  intro dc ba ja st e fa aa a w g hx;obtain⟨wa,qa⟩:bT x=true∧bT y=true:=by simpa[bT]using ja
  simp only[Bh]at ba;split at ba
  ·rename_i o dx dy h0 h1 h2;simp only[Qy]at ba;subst ba;have hc:=hx.slots.arg h0;rcases aa with ⟨ht,aa⟩|⟨ht,aa⟩
   ·rw[ht]at hc;exact wpIn_cond_true hc.bool_inv (u dx h1 wa st e fa aa a w g hx)
   ·rw[ht]at hc;exact wpIn_cond_false hc.bool_inv (va dy h2 qa st e fa aa a w g hx)
  ·cases ba
 |block i c ih=>
  intro dc ba ja st e fa aa a w g hx;simp only[Bh,QE]at ba;obtain⟨o,h1,rfl⟩:=ba;obtain⟨e1,d,na⟩:=aa;refine wpIn_block (wpIn_mono (ih o h1 ja st e1 fa d a w g hx) ?_);rintro e' a' w' ⟨rfl,g',hh,b,ma⟩;rcases na with ⟨rfl,rfl⟩|⟨ga,rfl⟩
  ·simp only[Ex.toExit,Exit.inBlock,if_true];exact⟨rfl,g',hh,b,ma⟩
  ·cases e with
   |normal=>exact⟨rfl,g',hh,b,ma⟩
   |ret=>exact⟨rfl,g',hh,b,ma⟩
   |exit j=>
    simp only[Ex.toExit,Exit.inBlock];rw[if_neg (λe=>ga (by rw[e]))];exact⟨rfl,g',hh,b,ma⟩
 |loop c ih=>
  intro dc ba ja st e fa aa a w g hx;simp only[Bh,QE]at ba;obtain⟨o,h1,rfl⟩:=ba;obtain⟨k,r⟩:=aa;refine wpIn_loop_ghost (λk a' w'=>∃ia g1,Holds P B w0 N ns ia a' w' g1∧H5 w g w' g1∧E0 ns st.m g ia.m g1∧Lp (Ev S ns o) k ia e fa) k ⟨st,g,hx,H5.refl w g,E0.refl _ _ _,r⟩ ?_;rintro k a1 w1 ⟨ia,g1,hh,b,ma,v⟩;cases v with
  |stop _ _ _ hr ga=>
   refine wpIn_mono (ih o h1 ja ia e fa hr a1 w1 g1 hh) ?_;rintro e' a' w' hp;have la:=hp.trans b ma;obtain⟨rfl,_⟩:=hp;cases e with
   |normal=>exact absurd rfl ga
   |ret=>exact la
   |exit i=>exact la
  |more n' _ ra _ _ hr ua=>
   refine wpIn_mono (ih o h1 ja ia .normal ra hr a1 w1 g1 hh) ?_;rintro e' a' w' ⟨rfl,g',sa,q,xa⟩;exact⟨n',Nat.lt_succ_self _,ra,g',sa,b.trans q,ma.trans xa,ua⟩
 |_=>
  intro dc ba;simp[Bh]at ba
end
end Go.Vd
namespace Go.Vd
open Go.RowKit Go.ChangeShapes Go.WideShapes Go.Deep
def allG(w:World)(b:Nat):Nat:=match w.heap[b]? with
 |some (.cells c _ _)=>c.size
 |_=>0
def N0(w:World)(b:Nat)(h:w.heap.size<=b):allG w b=0:=by
 grind [allG]
def WD{w:World}{p:Addr}{v:Value}(h:w.cell? p=some v):p.off<allG w p.block:=by
 unfold World.cell? at h;unfold allG;split at h
 ·grind
 ·cases h
def Pt{α:Type}{p:Nat->α->Prop}:∀n,(∀i,i<n->∃x,p i x)->∃l:List α,l.length=n∧∀i x,l[i]?=some x->p i x
 |0,_=>⟨[],rfl,U⟩
 |n+1,h=>by
  obtain⟨l,u,f⟩:=Pt n (λi hi=>h i O);obtain⟨x,w⟩:=h n O;refine⟨l++[x],by simp[u],λi y s=>?_⟩;by_cases hi:i<l.length
  ·grind
  ·grind
def V6(P:Program)(t:TypeId):Bool:=match P.underlying t with
 |some (.struct _)=>true
 |_=>false
def Mg:Bool->List D->D
 |true,cs=> .agg cs
 |false,[d]=>d
 |false,_=> .junk
def aTj(F:TypeId->List D->Prop):List TypeId->List D->Prop
 |[],ds=>ds=[]
 |t::r,ds=>∃a b,ds=a++b∧F t a∧aTj F r b
def Fit(P:Program):Nat->TypeId->List D->Prop
 |0,_,_=>False
 |n+1,t,ds=>match P.underlying t with
  |some .string=>∃s,ds=[.str s]
  |some .bool=>∃b,ds=[.bool b]
  |some (.int k)=>∃x,ds=[.int k x]∧(Lit.int k x).wf=true
  |some (.struct fs)=>aTj (Fit P n) (fs.toList.map (·.type)) ds
  |some (.slice e)=>∃nl xs,ds=[.slice nl [] xs]∧(nl=true->xs=[])∧∀x∈xs,∃cs,x=Mg (V6 P e) cs∧Fit P n e cs
  |_=>False
def aBI(P:Program)(c:Nat):List Field->Nat->Bool
 |[],o=>o==c
 |f::r,o=>f.offset==o&&aBI P c r (o+P.cellsOf f.type)
def I8(P:Program):Nat->TypeId->Bool
 |0,_=>false
 |n+1,t=>match P.underlying t with
  |some .string=>P.cellsOf t==1
  |some .bool=>P.cellsOf t==1
  |some (.int _)=>P.cellsOf t==1
  |some (.struct fs)=>aBI P (P.cellsOf t) fs.toList 0&&fs.toList.all λf=>I8 P n f.type
  |some (.slice e)=>P.cellsOf t==1&&I8 P n e
  |_=>false
structure Tx (w:World) (ds:List D) (cs:List Value):Prop where
 len:ds.length=cs.length
 calm:∀d∈ds,d.calm1=true
 un:ds.map D.un1=ds
 rep:∀(j:Nat) d v,ds[j]?=some d->cs[j]?=some v->Rep w (startG (allG w)) d v∧v.oneCell'=true
theorem Tx.one {w : World} {d : D} {v : Value} (u : d.calm1 = true) (f : d.un1 = d) (o : Rep w (startG (allG w)) d v) (m : v.oneCell' = true) : Tx w [d] [v] :=
 ⟨rfl, fun x p => by simp only [Qw, ZQ, or_false] at p; subst p; exact u, by simp [f], fun j x y p s => by
  match j with
  | 0 => simp only [Qv, Qy] at p s; subst p s; exact ⟨o, m⟩
  | j + 1 => simp at p⟩
def UI{c:Nat}{b:Bool}:∀(l:List (List D))(j:Nat)(d:D),(∀ds∈l,ds.length=c∧(Mg b ds).cells=ds)->(flat (l.map (Mg b)))[j]?=some d->∃i k ds,l[i]?=some ds∧ds[k]?=some d∧j=i*c+k
 |[],j,d,_,h=>by simp[flat]at h
 |x::r,j,d,hl,h=>by
  obtain⟨u,y⟩:=hl x (Qj ..);simp only[QH,flat,y]at h;by_cases p:j<x.length
  ·rw[Q4 p]at h;exact⟨0,j,x,rfl,h,O⟩
  ·rw[QL O]at h;obtain⟨i,k,ds,m,n,t⟩:=UI r _ d (λds z=>hl ds (Qg _ z)) h;refine⟨i+1,k,ds,by simpa using m,n,?_⟩;rw[Nat.succ_mul];omega
section
variable{H:Type}{enc:TypeId×Value->H}{P:Program}{w:World}{base:Nat}{spare:Nat->Bool}{held:Bool}
def Ph{n:Nat}{cs:List Value}{fuel:Nat}(ih:∀t,I8 P n t=true->∀(fuel:Nat)(cs:List Value) x,DataW.trod enc P w base spare held fuel t cs=some x->cs.length=P.cellsOf t∧∃ds,Fit P n t ds∧Tx w ds cs):
  ∀(fs:List Field)(o:Nat),aBI P cs.length fs o=true->(fs.all λf=>I8 P n f.type)=true->(∀(j:Nat) f,fs[j]?=some f->∃y,DataW.trod enc P w base spare held fuel f.type ((cs.drop f.offset).take (P.cellsOf f.type))=some y)->
   o<=cs.length∧∃ds,aTj (Fit P n) (fs.map (·.type)) ds∧Tx w ds (cs.drop o)
 |[],o,m,_,_=>by
  simp only[aBI,beq_iff_eq]at m;subst m;refine⟨Qh _,[],rfl,U,U,rfl,U⟩
 |f::r,o,m,hp,hf=>by
  simp only[aBI,Qq,beq_iff_eq]at m;obtain⟨rfl,m⟩:=m;simp only[Z2,Qq]at hp;obtain⟨y,s⟩:=hf 0 f rfl;obtain⟨u,a,q,c⟩:=ih _ hp.1 _ _ _ s;obtain⟨h2,b,k,sb⟩:=Ph ih r _ m hp.2 (λj g hg=>hf (j+1) g (by simpa using hg));have i:cs.drop f.offset=(cs.drop f.offset).take (P.cellsOf f.type)++cs.drop (f.offset+P.cellsOf f.type):=by
   rw[←Z_,Qx]
  refine⟨O,a++b,⟨a,b,rfl,q,k⟩,?_⟩;rw[i];refine⟨by rw[QB,QB,c.len,sb.len],λd z=>?_,by rw[Q5,c.un,sb.un],λj d v z e=>?_⟩
  ·rcases Qu.1 z with h|h
   ·exact c.calm d h
   ·exact sb.calm d h
  ·have hl:=c.len;by_cases p:j<a.length
   ·rw[Q4 p]at z;rw[Q4 O]at e;exact c.rep j d v z e
   ·rw[QL O]at z;rw[QL O,←hl]at e;exact sb.rep _ d v z e
def Rz{n:Nat}{e:TypeId}{ds:List D}(h:Fit P n e ds):(Mg (V6 P e) ds).cells=ds∧(ds.all D.calm1=true->(Mg (V6 P e) ds).calm=true):=by
 cases n with
 |zero=>exact h.elim
 |succ n=>
  unfold Fit at h;unfold V6;split at h
  ·rename_i c;rw[c];obtain⟨s,rfl⟩:=h;exact⟨rfl,λ_=>rfl⟩
  ·rename_i c;rw[c];obtain⟨s,rfl⟩:=h;exact⟨rfl,λ_=>rfl⟩
  ·rename_i c;rw[c];obtain⟨s,rfl,_⟩:=h;exact⟨rfl,λ_=>rfl⟩
  ·rename_i f c;rw[c];exact⟨rfl,λd=>by simpa[Mg,D.calm]using d⟩
  ·rename_i c;rw[c];obtain⟨nl,xs,rfl,_⟩:=h;exact⟨rfl,λ_=>rfl⟩
  ·exact h.elim
def R0:∀(n:Nat)(t:TypeId),I8 P n t=true->∀(fuel:Nat)(cs:List Value) x,DataW.trod enc P w base spare held fuel t cs=some x->cs.length=P.cellsOf t∧∃ds,Fit P n t ds∧Tx w ds cs
 |0,t,hp=>by simp[I8]at hp
 |n+1,t,hp=>by
  intro fuel cs x h;unfold I8 at hp;unfold Fit;split at hp
  ·rename_i ht;simp only[beq_iff_eq]at hp;obtain⟨s,rfl,_⟩:=DataW.trod_string ht h;exact⟨hp.symm,_,⟨s.data.toList,rfl⟩,Tx.one rfl rfl (.str _) rfl⟩
  ·rename_i ht;simp only[beq_iff_eq]at hp;obtain⟨b,rfl,_⟩:=DataW.trod_bool ht h;exact⟨hp.symm,_,⟨b,rfl⟩,Tx.one rfl rfl (.bool _) rfl⟩
  ·rename_i k ht;simp only[beq_iff_eq]at hp;obtain⟨b,rfl,_,hw⟩:=DataW.trod_int ht h;exact⟨hp.symm,_,⟨b,rfl,hw⟩,Tx.one rfl rfl (.int _ _) rfl⟩
  ·rename_i fs ht;simp only[Qq]at hp;obtain⟨ys,n',_,_,hl,y,hf⟩:=DataW.trod_struct ht h;rw[←hl]at hp;have:=Ph (fuel:=n') (R0 n) fs.toList 0 hp.1 hp.2 (λj f hj=>by
    have ta:fs[j]?=some f:=by simpa using hj
    have fa:j<fs.size:=(Qm.1 ta).1;have bb:ys[j]?=some (ys[j]' O):=Qb O;exact⟨_,(hf j f ta).trans bb⟩)
   obtain⟨_,ds,h1,h2⟩:=this;exact⟨hl,ds,h1,by simpa using h2⟩
  ·rename_i e ht;simp only[Qq,beq_iff_eq]at hp;rcases open_slice ht h with ⟨rfl,_⟩|⟨a,len,cap,m,n',D',Pl,rfl,_,hl,_,hm,_,hi⟩
   ·exact⟨hp.1.symm,_,⟨true,[],rfl,(λ_=>rfl),(λx hx=>by cases hx)⟩,Tx.one rfl rfl (.nils []) rfl⟩
   ·have z:len<=m:=by rw[hm];split<;>omega
    have hc:=Pt (p:=λi (ds:List D)=>Fit P n e ds∧ds.length=P.cellsOf e∧ds.all D.calm1=true∧∀(j:Nat) d,ds[j]?=some d->∃v,w.cell? (a.add (i*P.cellsOf e+j))=some v∧Rep w (startG (allG w)) d v∧v.oneCell'=true) len (λi g=>by
     obtain⟨da,h1,h2⟩:=hi i O;obtain⟨h3,ds,h4,h5⟩:=R0 n e hp.2 _ _ _ h2;refine⟨ds,h4,h5.len.trans h3,ZR.2 h5.calm,λj d hd=>?_⟩;have hj:j<ds.length:=(Q3.1 hd).1;have u:j<da.length:=by rw[←h5.len];exact hj
     obtain⟨_,_,ka⟩:=World.cells?_some h1;obtain⟨r1,r2⟩:=h5.rep j d _ hd (Qb u);refine⟨_,?_,r1,r2⟩;rw[←Go.Deep.add_add,ka j O,Qb u])
    obtain⟨l,xa,r⟩:=hc;have ia:∀j,j<len*P.cellsOf e->∃v,w.cell? (a.add j)=some v∧v.oneCell'=true:=by
     intro j hj;have o:0<P.cellsOf e:=by
      grind
     have hi:j / P.cellsOf e<l.length:=by rw[xa];exact Nat.div_lt_of_lt_mul (by rw[Z7];exact hj)
     obtain⟨_,q2,_,q4⟩:=r _ _ (Qb hi);have hk:j % P.cellsOf e<(l[j / P.cellsOf e]).length:=by rw[q2];exact Nat.mod_lt _ o
     obtain⟨v,h1,_,h3⟩:=q4 _ _ (Qb hk);rw[Z7,Nat.div_add_mod]at h1;exact⟨v,h1,h3⟩
    have ja:∀ds∈l,ds.length=P.cellsOf e∧(Mg (V6 P e) ds).cells=ds∧(Mg (V6 P e) ds).calm=true:=λds hd=>by
     obtain⟨i,hi,rfl⟩:=QM hd;obtain⟨q1,q2,q3,_⟩:=r i _ (Qb hi);exact⟨q2,(Rz q1).1,(Rz q1).2 q3⟩
    refine⟨hp.1.symm,[.slice false [] (l.map (Mg (V6 P e)))],⟨false,_,rfl,(λh0=>by cases h0),λx hx=>?_⟩,Tx.one rfl rfl ?_ rfl⟩
    ·obtain⟨ds,hd,rfl⟩:=Qn.1 hx;obtain⟨i,hi,rfl⟩:=QM hd;exact⟨_,rfl,(r i _ (Qb hi)).1⟩
    ·refine .slice [] _ a len cap (P.cellsOf e) (λj=>(w.cell? (a.add j)).getD undef) (by simp[xa]) hl (λd hd=>?_) (λj hj=>?_) (λj hj=>?_) (λj d hd=>?_) (λh0=>?_) (λh=>absurd rfl h) (λd hd=>?_)
     ·grind
     ·grind
     ·grind
     ·obtain⟨i,k,ds,e1,e2,rfl⟩:=UI (c:=P.cellsOf e) l j d (λds q=>⟨(ja ds q).1,(ja ds q).2.1⟩) hd;obtain⟨_,_,_,q4⟩:=r i ds e1;obtain⟨v,h1,h2,_⟩:=q4 k d e2;simp only[h1,QC];exact h2
     ·obtain⟨v,hv,_⟩:=ia (len*P.cellsOf e-1) O;have:=WD hv;rw[Ds,Cf]at this;show a.off+len*P.cellsOf e<=allG w a.block;omega
     ·obtain⟨ds,q,rfl⟩:=Qn.1 hd;exact(ja ds q).2.2
  ·cases hp
end
end Go.Vd
namespace Go.Vd
open Go.Proofs Go.RowKit Go.Shelf
def SK(w:World)(n b:Nat):Nat:=if b<n then allG w b else 0
def DAt(n:Nat)(w:World)(d:D)(v:Value):Prop:=Rep w (Gh.base (SK w n)) d v
def aAi{n:Nat}{w W:World}(f:Below n w W)(b:Nat):SK w n b=SK W n b:=by
 unfold SK;split
 ·rename_i h;unfold allG;rw[f.block b h]
 ·rfl
def aSa{n:Nat}{w:World}{p:Addr}(h:p.off<SK w n p.block):p.block<n:=by
 unfold SK at h;split at h
 ·assumption
 ·omega
def DAt.below{n:Nat}{w W:World}{d:D}{v:Value}(h:DAt n w d v)(s:d.calm=true)(f:Below n w W):DAt n W d v:=
 Rep.calm_to h s (λp g=>f.cell (aSa g)) (λb=>Zo (aAi f b))
def DAt.more{n k:Nat}{w:World}{d:D}{v:Value}(h:DAt n w d v)(s:d.calm=true)(g:n<=k):DAt k w d v:=
 Rep.calm_to h s (λ_ _=>rfl) (λb=>by
  show SK w n b<=SK w k b;unfold SK;split
  ·rw[if_pos O];exact Qh _
  ·exact Ql _)
def aZe(w:World)(i:Id)(b:Nat):Gh:={G:=λk=>if k=b then 0 else allG w k,G0:=λk=>if k=b then 0 else allG w k,dl:=λj=>if j=i then some b else none,tb:=λ_=>none}
def DAt.rep{n:Nat}{w:World}{d:D}{v:Value}(h:DAt n w d v)(s:d.calm=true){i:Id}{b:Nat}(f:n<=b):Rep w (aZe w i b) d v:=
 Rep.calm_to h s (λ_ _=>rfl) (λk=>by
  show SK w n k<=if k=b then 0 else allG w k
  unfold SK;split
  ·rw[if_neg O];exact Qh _
  ·exact Ql _)
def WG(i:Id)(d:D):HF:=HF.put (λ_ _=>none) i 0 [d]
def Hv{i j:Id}{o:Nat}{d n:D}(h:WG i d j o=some n):j=i∧o=0∧n=d:=by
 unfold WG HF.put at h
 grind
end Go.Vd
namespace Go.Vd
open Go.Proofs Go.RowKit
def dL:Code->Option (Code×Code)
 | .rangeFunc _ _ a b=>some (a,b)
 | .seq a b=>(dL a).or (dL b)
 | .cond _ a b=>(dL a).or (dL b)
 | .block _ a=>dL a
 | .loop a=>dL a
 | .scope a=>dL a
 |_=>none
def rfB(f:Func):Code:=((dL (bAt f)).getD (.skip,.skip)).2
abbrev y4(f:Func)(ps:List (Nat×List (Nat×Nat)))(ls:List (Nat×DC)){c:DC}(_:tQ ps ls (rfB f)=c:=by exact Eq.trans (by conv=>lhs;whnf) (by simp only[tQ,nW,Z1,tR,tO,tAt,tAi,tAb,tAs,tAf,tAl,tAp,tAn,tAu,tAg,zT,Tz.k,Tz.z,Tz.n,Tz.d,tL,tP,tB,tE,tX,tS,tI,tG,tC,tM,fAt,Pm,lk,ofVal,Zx,Zy,QH,Zd,Qk,Qz,ZV,Qe,Qf,QT,ZW,QC,Zi,reduceIte,Qr,Z3,Qt]<;>rfl)):DC:=c
abbrev y5(f:Func)(k:Nat)(ps:List (Nat×List (Nat×Nat)))(ls:List (Nat×DC)){c:DC}(_:tQ ps ls ((V0 k (rfB f)).getD .skip)=c:=by exact Eq.trans (by conv=>lhs;whnf) (by simp only[tQ,nW,Z1,tR,tO,tAt,tAi,tAb,tAs,tAf,tAl,tAp,tAn,tAu,tAg,zT,Tz.k,Tz.z,Tz.n,Tz.d,tL,tP,tB,tE,tX,tS,tI,tG,tC,tM,fAt,Pm,lk,ofVal,Zx,Zy,QH,Zd,Qk,Qz,ZV,Qe,Qf,QT,ZW,QC,Zi,reduceIte,Qr,Z3,Qt]<;>rfl)):DC:=c
end Go.Vd
namespace Go.Vd
open Go.Proofs Go.RowKit Go.Shelf
def qK(W:World)(b:Nat)(v:Value):Prop:=∃vs T,W.heap[b]?=some (.cells vs T (0,0))∧vs[0]?=some v
def qK.cell{W:World}{b:Nat}{v:Value}(h:qK W b v):W.cell? ⟨b,0,none⟩=some v:=by
 obtain⟨vs,T,u,y⟩:=h;simp[World.cell?,u,y]
def lP(T:Array Value)(k v k2 v2:Nat)(x:Bs×Bs):Array Value:=(((T.setIfInBounds k (encStr x.1)).setIfInBounds v (encStr x.2)).setIfInBounds k2 (encStr x.1)).setIfInBounds v2 (encStr x.2)
def xK(T:Array Value)(k v k2 v2:Nat)(x:Bs×Bs):(lP T k v k2 v2 x).size=T.size:=by simp[lP]
def NA{T:Array Value}{i j:Nat}{u d:Value}(h:j≠i):(T.setIfInBounds i u).getD j d=T.getD j d:=by
 rw[Q0,Q0,Array.getElem?_setIfInBounds_ne (Ne.symm h)]
def UG{T:Array Value}{i:Nat}{u d:Value}(h:i<T.size):(T.setIfInBounds i u).getD i d=u:=by
 rw[Q0,Array.getElem?_setIfInBounds_self_of_lt h];rfl
def Vz(f:Nat->D)(i bs k2 v2:Nat)(x:Bs×Bs):Nat->D:=λj=>if j=v2 then .str x.2 else if j=k2 then .str x.1 else if j=bs then .ptr [i] 0 else f j
end Go.Vd
namespace Go.Vd
open Go.Proofs Go.RowKit
def aFd:=y2 f20 [] []
def aX1:=Aq []
def wC:=RF aX1 aFd [.cell (some 1) 2] 5
def aRz:Kq wC 20:=An (Aj func20) Ad
def aHa(m:Md):wC [.agg (Ij m)]=some (.agg [HV m.tr]):=by
 refine Am (Qa rfl) ?_;unfold aFd;simp only[Ij,It,Qe,Qf];simp (disch:=first|assumption|omega)only[HG,↓C2,HB,simprocAttr,HP]
 all_goals exact Y2
def O8{m:HF}{i:Id}{a b c:D}:Ag (m.put i 0 [a,b,c]) i 0 3=some [a,b,c]:=AB rfl
def Od{m:HF}{i:Id}{a b c:D}:m.put i 0 [a,b,c] i 0=some a:=Bf (k:=0) O8 rfl
def kW{m:HF}{i:Id}{a b c:D}:m.put i 0 [a,b,c] i 1=some b:=Bf (k:=1) O8 rfl
def aBl{m:HF}{i:Id}{a b c:D}:m.put i 0 [a,b,c] i 2=some c:=Bf (k:=2) O8 rfl
def Ez{m:HF}:HN.app m []=m:=rfl
def kX{m:HF}{i:Id}{a:D}:m.put i 0 [a] i 0=some a:=DQ
def aEF:=y2 f185 [] []
def aEL:=y2 f128 [(4,[(10,7)])] []
def NM:=y3 f72 3 [(13,[(2,1)])] []
def aEZ:=y2 f72 [] [(3,NM)]
def ND:=y3 f193 3 [] []
def aEE:=y2 f193 [] [(3,ND)]
def aEK:=y2 f130 [] []
def aED:=y2 f194 [] []
def NH:=y3 f131 6 [(8,[(1,0)])] []
def IA:=y3 f131 3 [] [(6,NH)]
def oP:=y2 f131 [] [(3,IA)]
def NL:=y3 f74 2 [] []
def aEY:=y2 f74 [] [(2,NL)]
def oS:=y2 f31 [(1,[(1,0)]),(2,[(1,0)])] []
def WB:=y2 f7 [] []
end Go.Vd
end
