/-
  A part of the proof: the program at hand. Nothing in it is assumed.
-/
import Derived.Test.YtfocnoaoekkloaaGreatDoorNeedsP6
import Derived.Test.YtfocnoaoekkloaaGreatDoorProg

set_option linter.unusedSimpArgs false
set_option linter.unusedVariables false
set_option linter.defProp false
set_option maxHeartbeats 4000000
set_option maxRecDepth 100000
open Nat renaming zero_le→Qa,le_refl→Qm,le_trans→Qo,zero_add→Qp
open List renaming length_cons→Qb,length_nil→Qc,mem_singleton→Qd,getElem?_cons_zero→Qe,length_append→Qf,getElem?_cons_succ→Qi,mem_of_find?_eq_some→Ql,drop_succ_cons→Qn
open Option renaming isSome_some→Qg
open Go.Proofs.Tryz renaming prog→Qh
open Option.some renaming injEq→Qj
open Bool renaming or_eq_false_iff→Qk
open List.cons renaming injEq→Qq
open Go.Proofs.Tryz
noncomputable section
namespace Go.Vd
open Go.Proofs Go.RowKit
theorem key_len(k:Int)(p:Bs)(n:Int):(AZ k p n).length<=p.length+8:=by
 unfold AZ
 repeat' split
 all_goals (first|(simp only[Qf,Qb,Qc];omega)|exact Qa _)
theorem key1_head(p:Bs):(AZ 1 p 0).head?≠some 116:=by
 unfold AZ;split
 ·decide
 ·rw[if_pos rfl];simp
theorem key2_head(p:Bs)(n:Int):(AZ 2 p n).head?≠some 116:=by
 unfold AZ;split
 ·decide
 ·rw[if_neg (by decide),if_pos rfl];simp
theorem key1_ne{p:Bs}(h:AV p=0):AZ 1 p 0≠[]:=by
 unfold AZ DK;simp[h]
theorem key2_ne{p:Bs}{n:Int}(h:AV p=0)(h1:1<=n∧n<=30):AZ 2 p n≠[]:=by
 unfold AZ DK;simp[h,h1]
theorem read_bd(s:Sc)(n:Int):0<=(readS s n).2∧(readS s n).2<=99:=by
 unfold readS
 repeat' split
 ·exact(by decide:(0:Int)<=2∧(2:Int)<=99)
 ·exact(by decide:(0:Int)<=6∧(6:Int)<=99)
 ·exact(by decide:(0:Int)<=21∧(21:Int)<=99)
 ·exact(by decide:(0:Int)<=0∧(0:Int)<=99)
theorem read_row{s:Sc}(hs:ScI s){n:Int}(h:(readS s n).2=0):1<=(readS s n).1.1∧(readS s n).1.1<=30:=by
 have hb:=bad_out hs.bad;unfold readS at h ⊢;split at h
 ·cases h
 ·rename_i h1;rw[if_neg h1];split at h
  ·cases h
  ·rename_i h2;rw[if_neg h2];split at h
   ·cases h
   ·rename_i h3;rw[if_neg h3];have hlt:Fy s n<s.rs.length:=by
     unfold Fy;split
     ·omega
     ·exact placeR_lt _ _
    simp only[List.getD];rw[List.getElem?_eq_getElem (by omega)];have hm:=ris_bd hb.2.2.2.2.1 _ (List.getElem_mem (l:=s.rs) (n:=(Fy s n).toNat) (by omega));have he:(s.rs.getLast?.map (·.1)).getD 0=newE s.rs:=by unfold newE;cases s.rs.getLast?<;>rfl
    rw[he,hb.2.2.2.2.2]at hm;simp only[Option.getD_some];omega
def DG(v:Vw)(a:Ak)(k:Kn):Oc:=
 if(AM k a.pa).2.2=false then EM v (AZ 1 a.pa 0) false
 else if a.op=10 then writeE v a.pa (secG (Dp (AM k a.pa))) a.cas a.da
 else if a.op=15 then turnE v a.pa (D4 (secG (Dp (AM k a.pa))) (B6 v a.pa).1 a.n a.fl).1 (D4 (secG (Dp (AM k a.pa))) (B6 v a.pa).1 a.n a.fl).2.1 (D4 (secG (Dp (AM k a.pa))) (B6 v a.pa).1 a.n a.fl).2.2
 else match Dp (AM k a.pa)with
  |none=>failO v 6
  |some s=>if a.op=14 then {oc0 v with rep:=ryT (.about s)}else if a.op=16 then {Fp (oc0 v) a.pa s.rs with rep:=ryT .done}
   else if a.op=11 then turnE v a.pa (BB s a.ns 250).1 [] (BB s a.ns 250).2.2 else if a.op=12 then turnE v a.pa (BB s a.ns 251).1 [] (BB s a.ns 251).2.2
   else turnE v a.pa (BB s a.ns 252).1 (BB s a.ns 252).2.1 (BB s a.ns 252).2.2
theorem wc64{v:Vw}{a:Ak}{k:Kn}(hv:ViewI v)(ha:AskI a)(hk:KnOk k)(hop:10<=a.op∧a.op<=16):∃ol,W64 ⟨v,a,k⟩ (oc0 v) []=some (.tup [],DG v a k,ol):=by
 have hp:a.pa.length<=1000000:=by have:=ha.ok.pa;omega
 have hd:a.da.length<=1000000:=by have:=ha.ok.da;omega
 have hn:=ha.ok.ns;unfold DG;cases hm:(AM k a.pa).2.2 with
 |false=>
  rw[if_pos rfl];exact⟨_,W64_need ⟨v,a,k⟩ (oc0 v) _ _ _ (λ_=>rfl) (w135_need hk hp hm)⟩
 |true=>
  rw[if_neg (by decide)];have h135:=FE (v:=v) (a:=a) hk hp hm;have hsg:=FJ (AM k a.pa);by_cases h10:a.op=10
  ·rw[if_pos h10];obtain⟨ol,h138⟩:=w138 (a:=a) (k:=k) hv hp hsg (cas:=a.cas) (data:=a.da) hd;exact⟨_,W64_write ⟨v,a,k⟩ (oc0 v) _ _ _ _ (λ_=>rfl) h135 h10 h138⟩
  rw[if_neg h10];by_cases h15:a.op=15
  ·rw[if_pos h15];have hl:=hsg.len;obtain⟨b1,b2,b3⟩:=confS_bd hl (B6 v a.pa).1 a.n a.fl;obtain⟨ol,h141⟩:=w141 (v:=v) (a:=a) (k:=k) (s:=(D4 (secG (Dp (AM k a.pa))) (B6 v a.pa).1 a.n a.fl).1) (by omega) (gnl:=decide ((D4 (secG (Dp (AM k a.pa))) (B6 v a.pa).1 a.n a.fl).2.1=[])) (gone:=(D4 (secG (Dp (AM k a.pa))) (B6 v a.pa).1 a.n a.fl).2.1) (by omega) b1 hp;exact⟨_,W64_config ⟨v,a,k⟩ (oc0 v) _ _ _ _ (λ_=>rfl) h135 h15 (B6 v a.pa).1 (B6 v a.pa).2 _ _ _ _ h141 (W140_eq ⟨v,a,k⟩ (oc0 v) a.pa (λ_=>rfl) (by have:=hv.ml;simp only;omega)) (R139_eq _ _ _ _ _ (by omega) hsg.nl)⟩
  rw[if_neg h15];cases hs:Dp (AM k a.pa)with
  |none=>
   rw[hs]at h135;exact⟨_,W64_none ⟨v,a,k⟩ (oc0 v) _ _ _ (λ_=>rfl) h135 h10 h15 (w54 v a k (by decide))⟩
  |some s=>
   rw[hs]at h135;have hsi:=secT_ok hs;have hl:=hsi.len;simp only;by_cases h14:a.op=14
   ·rw[if_pos h14];exact⟨_,W64_about ⟨v,a,k⟩ (oc0 v) s _ _ (λ_=>rfl) h135 h14 (FZ ⟨v,a,k⟩ (oc0 v) (.about s) (λ_=>rfl) (show s.rs.length<=1000 by omega) trivial)⟩
   rw[if_neg h14];by_cases h16:a.op=16
   ·rw[if_pos h16];exact⟨_,W64_purge ⟨v,a,k⟩ (oc0 v) s _ _ (λ_=>rfl) h135 h16 (W142_eq ⟨v,a,k⟩ (oc0 v) s (oc00 v) (by omega) hp)⟩
   rw[if_neg h16];by_cases h11:a.op=11
   ·rw[if_pos h11];obtain⟨b1,b2,b3⟩:=Fj hl a.ns 250;obtain⟨ol,h141⟩:=w141 (v:=v) (a:=a) (k:=k) (s:=(BB s a.ns 250).1) (by omega) (gnl:=true) (gone:=[]) (Qa _) b1 hp;exact⟨_,W64_delete ⟨v,a,k⟩ (oc0 v) s _ _ (λ_=>rfl) h135 h11 _ _ h141 (R143_eq s _ _ (by omega) hsi.nl hn)⟩
   rw[if_neg h11];by_cases h12:a.op=12
   ·rw[if_pos h12];obtain⟨b1,b2,b3⟩:=Fj hl a.ns 251;obtain⟨ol,h141⟩:=w141 (v:=v) (a:=a) (k:=k) (s:=(BB s a.ns 251).1) (by omega) (gnl:=true) (gone:=[]) (Qa _) b1 hp;exact⟨_,W64_undelete ⟨v,a,k⟩ (oc0 v) s _ _ (λ_=>rfl) h135 h12 _ _ h141 (R144_eq s _ _ (by omega) hsi.nl hn)⟩
   rw[if_neg h12];have h13:a.op=13:=by omega
   obtain⟨b1,b2,b3⟩:=Fj hl a.ns 252;obtain⟨ol,h141⟩:=w141 (v:=v) (a:=a) (k:=k) (s:=(BB s a.ns 252).1) (by omega) (gnl:=decide ((BB s a.ns 252).2.1=[])) (gone:=(BB s a.ns 252).2.1) (by omega) b1 hp;exact⟨_,W64_destroy ⟨v,a,k⟩ (oc0 v) s _ _ (λ_=>rfl) h135 h13 _ _ _ _ h141 (R145_eq s _ _ (by omega) hsi.nl hn)⟩
theorem DA{v:Vw}{a:Ak}{k:Kn}(hr:AV a.pa=0):((DG v a k).need=[]->(DG v a k).rep≠[])∧(DG v a k).ops.length<=1000∧((AM k a.pa).2.2=true->(DG v a k).need=[])∧((AM k a.pa).2.2=false->DG v a k=EM v (AZ 1 a.pa 0) false):=by
 have hsg:=FJ (AM k a.pa);have hl:=hsg.len;unfold DG;cases hm:(AM k a.pa).2.2 with
 |false=>
  rw[if_pos rfl];exact⟨λe=>absurd e (key1_ne hr),Qa _,λe=>(by cases e),λ_=>rfl⟩
 |true=>
  rw[if_neg (by decide)];have mk:∀o:Oc,(o.need=[]∧o.rep≠[]∧o.ops.length<=1000)->(o.need=[]->o.rep≠[])∧o.ops.length<=1000∧(true=true->o.need=[])∧(true=false->o=EM v (AZ 1 a.pa 0) false):=λo h=>⟨λ_=>h.2.1,h.2.2,λ_=>h.1,λe=>by cases e⟩
  apply mk;by_cases h10:a.op=10
  ·rw[if_pos h10];exact writeE_ok hsg
  rw[if_neg h10];by_cases h15:a.op=15
  ·rw[if_pos h15];obtain⟨b1,b2,b3⟩:=confS_bd hl (B6 v a.pa).1 a.n a.fl;exact turnE_ok (by omega) b1
  rw[if_neg h15];cases hs:Dp (AM k a.pa)with
  |none=>exact⟨rfl,Cc (by decide),Qa _⟩
  |some s=>
   have hsi:=secT_ok hs;have hl:=hsi.len;simp only;by_cases h14:a.op=14
   ·rw[if_pos h14];exact⟨rfl,Ei (y:= .about s) (if_neg (by rw[hsi.bad];decide)),Qa _⟩
   rw[if_neg h14];by_cases h16:a.op=16
   ·rw[if_pos h16];refine⟨rfl,Ei (y:= .done) rfl,?_⟩;have:(Fa s.rs).length<=s.rs.length:=by unfold Fa;rw[List.length_map];exact List.length_filter_le _ _
    simp only[Fp,BE,Oc.op,oc0,Qf,Qb,Qc,List.length_map];omega
   rw[if_neg h16];by_cases h11:a.op=11
   ·rw[if_pos h11];exact turnE_ok (Qa _) (Fj hl a.ns 250).1
   rw[if_neg h11];by_cases h12:a.op=12
   ·rw[if_pos h12];exact turnE_ok (Qa _) (Fj hl a.ns 251).1
   rw[if_neg h12];obtain⟨b1,b2,b3⟩:=Fj hl a.ns 252;exact turnE_ok (by omega) b1
theorem dec_change{v:Vw}{a:Ak}(hv:ViewI v)(ha:AskI a)(h25:F25 [vwD v,akD a]=some (.int .i64 0))(hr:AV a.pa=0)(hop:10<=a.op∧a.op<=16):DecOk v a (DG v a) (λk=>if(AM k a.pa).2.2=true then 0 else 1):=by
 refine⟨λk hk=>?_,λk=>?_,λk d hk hn=>?_,λk hk hn=>(DA hr).1 hn,λk k' hs=>?_,λk hk=>(DA hr).2.1,λk hk=>?_⟩
 ·obtain⟨ol,h⟩:=wc64 hv ha hk hop;rcases(by omega:a.op=10∨a.op=11∨a.op=12∨a.op=13∨a.op=14∨a.op=15∨a.op=16)with e|e|e|e|e|e|e
  ·exact Bo .o10 a k e h25 _ _ h
  ·exact Bo .o11 a k e h25 _ _ h
  ·exact Bo .o12 a k e h25 _ _ h
  ·exact Bo .o13 a k e h25 _ _ h
  ·exact Bo .o14 a k e h25 _ _ h
  ·exact Bo .o15 a k e h25 _ _ h
  ·exact Bo .o16 a k e h25 _ _ h
 ·split<;>decide
 ·cases hm:(AM k a.pa).2.2 with
  |true=>exact absurd ((DA (v:=v) hr).2.2.1 hm) hn
  |false=>
   rw[(DA (v:=v) hr).2.2.2 hm];show(if(CG (Bj k (AZ 1 a.pa 0) false d) (AZ 1 a.pa 0)).2.2=true then 0 else 1)<_;rw[(FN k _ d _).1 rfl];decide
 ·have:AM k a.pa=AM k' a.pa:=hs.1 _ (key1_head _);unfold DG;rw[this]
 ·have hl:=key_len 1 a.pa 0;have:=ha.ok.pa;cases hm:(AM k a.pa).2.2 with
  |true=>rw[(DA (v:=v) hr).2.2.1 hm];exact Qa _
  |false=>rw[(DA (v:=v) hr).2.2.2 hm];show(AZ 1 a.pa 0).length<=_;omega
def listE(v:Vw)(a:Ak)(k:Kn):Oc:=
 if(EB k ([109,47]++a.pa++[47])).2.2=false then EM v ([109,47]++a.pa++[47]) true
 else {oc0 v with rep:=ryT (.names (decide (Fu a.pa (BN (EB k ([109,47]++a.pa++[47])).2.1)=[])) ((chB a.pa (BN (EB k ([109,47]++a.pa++[47])).2.1)).take 64))}
theorem kid_nil{top:Bs}{l:List Bs}(h:Fu top l=[]):chB top l=[]:=by unfold chB srtB;rw[h,List.mergeSort_nil];rfl
theorem paths_bd{l:List Bs}(h:∀s∈l,s.length<=1000000):∀s∈BN l,s.length<=1000000:=λs hs=>Qo (route_len (paths_route hs)) (by decide)
theorem dec_list{v:Vw}{a:Ak}(hv:ViewI v)(ha:AskI a)(h25:F25 [vwD v,akD a]=some (.int .i64 0))(hop:a.op=17):DecOk v a (listE v a) (λk=>if(EB k ([109,47]++a.pa++[47])).2.2=true then 0 else 1):=by
 have hp:a.pa.length<=1000000:=by have:=ha.ok.pa;omega
 refine⟨λk hk=>?_,λk=>?_,λk d hk hn=>?_,λk hk hn=>?_,λk k' hs=>?_,λk hk=>?_,λk hk=>?_⟩
 ·have hkl:k.ls.length<=1000:=by have:=hk.ls;omega
  have h132:=R132_eq k ([109,47]++a.pa++[47]) hkl;unfold listE;cases hm:(EB k ([109,47]++a.pa++[47])).2.2 with
  |false=>
   rw[if_pos rfl];rw[hm]at h132;exact Bo .o17 a k hop h25 _ _ (W62_need Ee ⟨v,a,k⟩ (oc0 v) _ _ (λ_=>rfl) _ _ hp h132 (W133_eq ⟨v,a,k⟩ (oc0 v) _ _ (oc00 v)))
  |true=>
   rw[if_neg (by decide)];rw[hm]at h132;obtain⟨b1,b2⟩:=lst_ok hk ([109,47]++a.pa++[47]);generalize (EB k ([109,47]++a.pa++[47])).2.1=found at *;have hpl:=paths_len found;have hcl:=ch_len a.pa (BN found);exact Bo .o17 a k hop h25 _ _ (W62_ok Ee ⟨v,a,k⟩ (oc0 v) _ (λ_=>rfl) _ _ hp h132 b1 b2 (decide (Fu a.pa (BN found)=[])) (chB a.pa (BN found)) (λb _=>G134_eq (by omega) (paths_bd b2)) (by omega) (λe=>kid_nil (of_decide_eq_true e)) (FZ ⟨v,a,k⟩ (oc0 v) (.names _ _) (λ_=>rfl) (by show((chB a.pa (BN found)).take 64).length<=1000;rw[List.length_take];omega) (λe=>by rw[kid_nil (of_decide_eq_true e)];rfl)))
 ·split<;>decide
 ·unfold listE at hn ⊢;cases hm:(EB k ([109,47]++a.pa++[47])).2.2 with
  |true=>rw[hm,if_neg (by decide)]at hn;exact absurd rfl hn
  |false=>
   rw[if_pos rfl];show(if(EB (Bj k ([109,47]++a.pa++[47]) true d) ([109,47]++a.pa++[47])).2.2=true then 0 else 1)<_;rw[learn_l];decide
 ·unfold listE at hn ⊢;cases hm:(EB k ([109,47]++a.pa++[47])).2.2 with
  |false=>rw[hm,if_pos rfl]at hn;simp[EM]at hn
  |true=>
   rw[if_neg (by decide)];exact Ei (y:= .names _ _) (if_pos ⟨by rw[List.length_take];omega,ch_names _ _⟩)
 ·unfold listE;rw[hs.2]
 ·unfold listE;split<;>exact Qa _
 ·have:=ha.ok.pa;unfold listE;split
  ·simp only[EM,Qf,Qb,Qc];omega
  ·exact Qa _
def numA(a:Ak):Int:=if a.op=18 then 0 else a.n
def DL(k:Kn)(a:Ak):Rw×Int:=readS (secG (Dp (AM k a.pa))) (numA a)
def BJ(k:Kn)(a:Ak):Bs:=AZ 2 a.pa (DL k a).1.1
def textE(k:Kn)(a:Ak):Bs:=if(CG k (BJ k a)).2.1=true then(CG k (BJ k a)).1 else []
def Ew(v:Vw)(a:Ak)(k:Kn):Oc:=
 if(AM k a.pa).2.2=false then EM v (AZ 1 a.pa 0) false
 else if(Dp (AM k a.pa)).isSome=false then failO v 6
 else if(DL k a).2≠0 then failO v (DL k a).2
 else if(CG k (BJ k a)).2.2=false then EM v (BJ k a) false
 else if a.op=9 then {oc0 v with rep:=ryT (.found (DL k a).1.1 (textE k a))}
 else if(AM k a.ot).2.2=false then EM v (AZ 1 a.ot 0) false
 else writeE v a.ot (secG (Dp (AM k a.ot))) (-1) (textE k a)
section
variable{v:Vw}{a:Ak}{k:Kn}
theorem text_len(hk:KnOk k):(textE k a).length<=400:=by
 unfold textE;split
 ·exact ent_len hk _
 ·exact Qa _
theorem rwd_eta(r:Rw):rwD r= .agg [.int .i64 r.1,.bool r.2.1,.bool r.2.2]:=rfl
theorem wc63(hv:ViewI v)(ha:AskI a)(hk:KnOk k)(hop:a.op=9∨a.op=18):∃ol,W63 ⟨v,a,k⟩ (oc0 v) []=some (.tup [],Ew v a k,ol):=by
 have hp:a.pa.length<=1000000:=by have:=ha.ok.pa;omega
 have hq:a.ot.length<=1000000:=by have:=ha.ok.ot;omega
 have hkl:k.es.length<=1000:=by have:=hk.es;omega
 have htl:=text_len (a:=a) hk;unfold Ew;cases hm:(AM k a.pa).2.2 with
 |false=>
  rw[if_pos rfl];exact⟨_,W63_need ⟨v,a,k⟩ (oc0 v) _ _ _ (λ_=>rfl) (w135_need hk hp hm)⟩
 |true=>
  rw[if_neg (by decide)];have h135:=FE (v:=v) (a:=a) hk hp hm;have hsg:=FJ (AM k a.pa);have hl:=hsg.len;cases hs:(Dp (AM k a.pa)).isSome with
  |false=>
   rw[if_pos rfl];rw[hs]at h135;exact⟨_,W63_none ⟨v,a,k⟩ (oc0 v) _ _ _ (λ_=>rfl) h135 (w54 v a k (by decide))⟩
  |true=>
   rw[if_neg (by decide)];rw[hs]at h135;have h136:=R136_eq (secG (Dp (AM k a.pa))) (numA a) (by omega);rw[rwd_eta]at h136;have hrb:=read_bd (secG (Dp (AM k a.pa))) (numA a);have h123:=Cy 2 (DL k a).1.1 a.pa hp;have h137:=R137_eq k (BJ k a) hkl;unfold textE at htl ⊢;unfold DL BJ DL at *;generalize readS (secG (Dp (AM k a.pa))) (numA a)=row at *;obtain⟨⟨n,r1,r2⟩,e⟩:=row;simp only at *;by_cases he:e≠0
   ·rw[if_pos he];rcases hop with h9|h18
    ·have hnum:numA a=a.n:=by unfold numA;rw[h9];rfl
     rw[hnum]at h136;exact⟨_,W63_fail9 ⟨v,a,k⟩ (oc0 v) _ _ _ (λ_=>rfl) h135 h9 n e r1 r2 h136 he (w54 v a k (by omega))⟩
    ·have hnum:numA a=0:=by unfold numA;rw[if_pos h18]
     rw[hnum]at h136;exact⟨_,W63_fail18 ⟨v,a,k⟩ (oc0 v) _ _ _ (λ_=>rfl) h135 h18 n e r1 r2 h136 he (w54 v a k (by omega))⟩
   ·rw[if_neg he];obtain rfl:=Decidable.not_not.1 he;generalize AZ 2 a.pa n=q at *;generalize CG k q=en at *;obtain⟨t1,t2,t3⟩:=en;simp only at *;rcases hop with h9|h18
    ·have hnum:numA a=a.n:=by unfold numA;rw[h9];rfl
     rw[hnum]at h136;cases t3 with
     |false=>
      rw[if_pos rfl];exact⟨_,W63_need9 ⟨v,a,k⟩ (oc0 v) _ _ _ (λ_=>rfl) h135 h9 n r1 r2 h136 q _ _ h123 h137 (W133_eq ⟨v,a,k⟩ (oc0 v) q false (oc00 v))⟩
     |true=>
      rw[if_neg (by decide),if_pos h9];cases t2 with
      |true=>exact⟨_,W63_read_in ⟨v,a,k⟩ (oc0 v) _ _ _ (λ_=>rfl) h135 h9 n r1 r2 h136 q _ h123 h137 (FZ ⟨v,a,k⟩ (oc0 v) (.found n t1) (λ_=>rfl) trivial trivial)⟩
      |false=>exact⟨_,W63_read_out ⟨v,a,k⟩ (oc0 v) _ _ _ (λ_=>rfl) h135 h9 n r1 r2 h136 q _ h123 h137 (FZ ⟨v,a,k⟩ (oc0 v) (.found n []) (λ_=>rfl) trivial trivial)⟩
    ·have hnum:numA a=0:=by unfold numA;rw[if_pos h18]
     have h9:¬a.op=9:=by omega
     rw[hnum]at h136;cases t3 with
     |false=>
      rw[if_pos rfl];exact⟨_,W63_need18 ⟨v,a,k⟩ (oc0 v) _ _ _ (λ_=>rfl) h135 h18 n r1 r2 h136 q _ _ h123 h137 (W133_eq ⟨v,a,k⟩ (oc0 v) q false (oc00 v))⟩
     |true=>
      rw[if_neg (by decide),if_neg h9];cases hm2:(AM k a.ot).2.2 with
      |false=>
       rw[if_pos rfl];have h135b:=w135_need (v:=v) (a:=a) hk hq hm2;cases t2 with
       |true=>exact⟨_,W63_copy_need_in ⟨v,a,k⟩ (oc0 v) _ _ (λ_=>rfl) h135 h18 n r1 r2 h136 q _ h123 h137 _ _ h135b⟩
       |false=>exact⟨_,W63_copy_need_out ⟨v,a,k⟩ (oc0 v) _ _ (λ_=>rfl) h135 h18 n r1 r2 h136 q _ h123 h137 _ _ h135b⟩
      |true=>
       rw[if_neg (by decide)];have h135b:=FE (v:=v) (a:=a) hk hq hm2;cases t2 with
       |true=>
        obtain⟨ol,h138⟩:=w138 (a:=a) (k:=k) hv hq (FJ (AM k a.ot)) (cas:=-1) (data:=t1) (by simp only[if_true]at htl;omega);exact⟨_,W63_copy_in ⟨v,a,k⟩ (oc0 v) _ _ _ (λ_=>rfl) h135 h18 n r1 r2 h136 q _ h123 h137 _ _ h135b h138⟩
       |false=>
        obtain⟨ol,h138⟩:=w138 (a:=a) (k:=k) hv hq (FJ (AM k a.ot)) (cas:=-1) (data:=[]) (Qa _);exact⟨_,W63_copy_out ⟨v,a,k⟩ (oc0 v) _ _ _ (λ_=>rfl) h135 h18 n r1 r2 h136 q _ h123 h137 _ _ h135b h138⟩
def rankD(k:Kn)(a:Ak):Nat:=if(AM k a.pa).2.2=false then 3 else if(CG k (BJ k a)).2.2=false then 2 else if(AM k a.ot).2.2=false then 1 else 0
theorem data_sim{k':Kn}(hs:SimK k k'):Ew v a k=Ew v a k':=by
 have h1:AM k a.pa=AM k' a.pa:=hs.1 _ (key1_head _);have h2:AM k a.ot=AM k' a.ot:=hs.1 _ (key1_head _);have h3:DL k a=DL k' a:=by unfold DL;rw[h1]
 have h4:BJ k a=BJ k' a:=by unfold BJ;rw[h3]
 have h5:CG k (BJ k a)=CG k' (BJ k' a):=by rw[←h4];exact hs.1 _ (key2_head _ _)
 have h6:textE k a=textE k' a:=by unfold textE;rw[h5]
 unfold Ew;rw[h1,h2,h3,h5,h6,h4]
theorem data_ok(hk:KnOk k)(hr:AV a.pa=0)(hr2:a.op=18->AV a.ot=0)(hop:a.op=9∨a.op=18):((Ew v a k).need=[]->(Ew v a k).rep≠[])∧(Ew v a k).ops.length<=1000∧
  ((Ew v a k).need≠[]->((AM k a.pa).2.2=false∧Ew v a k=EM v (AZ 1 a.pa 0) false)∨((AM k a.pa).2.2=true∧(CG k (BJ k a)).2.2=false∧Ew v a k=EM v (BJ k a) false)∨((AM k a.pa).2.2=true∧(CG k (BJ k a)).2.2=true∧(AM k a.ot).2.2=false∧Ew v a k=EM v (AZ 1 a.ot 0) false)):=by
 have htl:=text_len (a:=a) hk;have fin:∀{o:Oc} {p:Prop},o.need=[]->o.rep≠[]->o.ops.length<=1000->(o.need=[]->o.rep≠[])∧o.ops.length<=1000∧(o.need≠[]->p):=λh1 h2 h3=>⟨λ_=>h2,h3,λh=>absurd h1 h⟩
 unfold Ew;cases hm:(AM k a.pa).2.2 with
 |false=>
  rw[if_pos rfl];exact⟨λe=>absurd e (key1_ne hr),Qa _,λ_=> .inl ⟨rfl,rfl⟩⟩
 |true=>
  rw[if_neg (by decide)];cases hs:(Dp (AM k a.pa)).isSome with
  |false=>rw[if_pos rfl];exact fin rfl (Cc (by decide)) (Qa _)
  |true=>
   rw[if_neg (by decide)];have hrb:=read_bd (secG (Dp (AM k a.pa))) (numA a);by_cases he:(DL k a).2≠0
   ·rw[if_pos he];exact fin rfl (Cc ⟨by unfold DL at *;omega,hrb.2⟩) (Qa _)
   rw[if_neg he];have hrow:1<=(DL k a).1.1∧(DL k a).1.1<=30:=read_row (FJ _) (Decidable.not_not.1 he);cases ht:(CG k (BJ k a)).2.2 with
   |false=>
    rw[if_pos rfl];exact⟨λe=>absurd e (key2_ne hr hrow),Qa _,λ_=> .inr (.inl ⟨rfl,rfl,rfl⟩)⟩
   |true=>
    rw[if_neg (by decide)];by_cases h9:a.op=9
    ·rw[if_pos h9];exact fin rfl (Ei (y:= .found _ _) (if_pos ⟨by omega,by omega,htl⟩)) (Qa _)
    rw[if_neg h9];have h18:a.op=18:=by omega
    cases hm2:(AM k a.ot).2.2 with
    |false=>
     rw[if_pos rfl];exact⟨λe=>absurd e (key1_ne (hr2 h18)),Qa _,λ_=> .inr (.inr ⟨rfl,rfl,rfl,rfl⟩)⟩
    |true=>
     rw[if_neg (by decide)];obtain⟨w1,w2,w3⟩:=writeE_ok (v:=v) (p:=a.ot) (FJ (AM k a.ot)) (cas:=-1) (data:=textE k a);exact fin w1 w2 w3
end
theorem dec_data{v:Vw}{a:Ak}(hv:ViewI v)(ha:AskI a)(h25:F25 [vwD v,akD a]=some (.int .i64 0))(hr:AV a.pa=0)(hr2:a.op=18->AV a.ot=0)(hop:a.op=9∨a.op=18):DecOk v a (Ew v a) (λk=>rankD k a):=by
 refine⟨λk hk=>?_,λk=>?_,λk d hk hn=>?_,λk hk hn=>(data_ok hk hr hr2 hop).1 hn,λk k' hs=>data_sim hs,λk hk=>(data_ok hk hr hr2 hop).2.1,λk hk=>?_⟩
 ·obtain⟨ol,h⟩:=wc63 hv ha hk hop;rcases hop with e|e
  ·exact Bo .o9 a k e h25 _ _ h
  ·exact Bo .o18 a k e h25 _ _ h
 ·unfold rankD
  repeat' split
  all_goals decide
 ·rcases(data_ok (v:=v) hk hr hr2 hop).2.2 hn with ⟨h1,h2⟩|⟨h1,h2,h3⟩|⟨h1,h2,h3,h4⟩
  ·rw[h2];show rankD (Bj k (AZ 1 a.pa 0) false d) a<rankD k a;have e:(AM (Bj k (AZ 1 a.pa 0) false d) a.pa).2.2=true:=(FN k _ d _).1 rfl;unfold rankD;rw[e,h1];simp only[Bool.true_eq_false,if_false,if_true]
   repeat' split
   all_goals decide
  ·rw[h3];show rankD (Bj k (BJ k a) false d) a<rankD k a;have hne:AZ 1 a.pa 0≠BJ k a:=λe=>by
    unfold AM at h1;rw[e,h2]at h1;cases h1
   have e:AM (Bj k (BJ k a) false d) a.pa=AM k a.pa:=(FN k _ d _).2 hne;have e3:DL (Bj k (BJ k a) false d) a=DL k a:=by unfold DL;rw[e]
   have e4:BJ (Bj k (BJ k a) false d) a=BJ k a:=by
    show AZ 2 a.pa (DL (Bj k (BJ k a) false d) a).1.1=AZ 2 a.pa (DL k a).1.1;rw[e3]
   have e5:(CG (Bj k (BJ k a) false d) (BJ k a)).2.2=true:=(FN k _ d _).1 rfl;unfold rankD;rw[e,h1,h2,e4,e5];simp only[Bool.true_eq_false,if_false,if_true];split<;>decide
  ·rw[h4];show rankD (Bj k (AZ 1 a.ot 0) false d) a<rankD k a;have hne:AZ 1 a.pa 0≠AZ 1 a.ot 0:=λe=>by
    unfold AM at h1 h3;rw[e,h3]at h1;cases h1
   have hne2:BJ k a≠AZ 1 a.ot 0:=λe=>by
    unfold AM at h3;rw[e,h3]at h2;cases h2
   have e:AM (Bj k (AZ 1 a.ot 0) false d) a.pa=AM k a.pa:=(FN k _ d _).2 hne;have e3:DL (Bj k (AZ 1 a.ot 0) false d) a=DL k a:=by unfold DL;rw[e]
   have e4:BJ (Bj k (AZ 1 a.ot 0) false d) a=BJ k a:=by
    show AZ 2 a.pa (DL (Bj k (AZ 1 a.ot 0) false d) a).1.1=AZ 2 a.pa (DL k a).1.1;rw[e3]
   have e5:CG (Bj k (AZ 1 a.ot 0) false d) (BJ k a)=CG k (BJ k a):=(FN k _ d _).2 hne2;have e6:(AM (Bj k (AZ 1 a.ot 0) false d) a.ot).2.2=true:=(FN k _ d _).1 rfl;unfold rankD;rw[e,h1,e4,e5,h2,e6,h3];decide
 ·by_cases hn:(Ew v a k).need=[]
  ·rw[hn];exact Qa _
  have h1:=ha.ok.pa;have h2:=ha.ok.ot;have l1:=key_len 1 a.pa 0;have l2:=key_len 2 a.pa (DL k a).1.1;have l3:=key_len 1 a.ot 0;rcases(data_ok (v:=v) hk hr hr2 hop).2.2 hn with ⟨_,h⟩|⟨_,_,h⟩|⟨_,_,_,h⟩<;>rw[h]
  ·show(AZ 1 a.pa 0).length<=_;omega
  ·show(AZ 2 a.pa (DL k a).1.1).length<=_;omega
  ·show(AZ 1 a.ot 0).length<=_;omega
theorem dec_all{v:Vw}{a:Ak}(hv:ViewI v)(ha:AskI a):∃dec R,DecOk v a dec R:=by
 have h25:=F25_eq hv.ok ha.ok;have hb:=refA_bd v a;by_cases h:refA v a=0
 ·rw[h]at h25;have hc:=check_zero h;obtain⟨h1,h2⟩:=op_of hc ha.ok.op0;by_cases h8:a.op<=8
  ·exact dec_sys hv ha h25 h1 h8
  have hr:=path_of hc (by omega) h2;by_cases h17:a.op=17
  ·exact⟨_,_,dec_list hv ha h25 h17⟩
  by_cases h9:a.op=9∨a.op=18
  ·exact⟨_,_,dec_data hv ha h25 hr (λe=>other_of hc e) h9⟩
  ·exact⟨_,_,dec_change hv ha h25 hr (by omega)⟩
 ·exact⟨_,_,dec_fail h25 (by omega)⟩
theorem much_its{d:Dk}(h:muchB d=false):∀x∈d.its,x.1.length<=200∧x.2.1.length<=200:=λx hx=>by
 unfold muchB at h;simp only[Qk]at h;have:=List.any_eq_false.1 h.1.2 x hx;simp only[bigI,Bool.or_eq_true,decide_eq_true_eq]at this;omega
theorem much_lss{d:Dk}(h:muchB d=false):∀x∈d.lss,x.2.2.length<=100∧∀s∈x.2.2,s.length<=200:=λx hx=>by
 unfold muchB at h;simp only[Qk]at h;have:=List.any_eq_false.1 h.2 x hx;simp only[bigL,Bool.or_eq_true,decide_eq_true_eq,not_or]at this;refine⟨by omega,λs hs=>?_⟩;have h2:=this.2;rw[List.any_eq_true]at h2;rcases Nat.lt_or_ge 200 s.length with h3|h3
 ·exact absurd ⟨s,hs,by simpa using h3⟩ h2
 ·exact h3
structure KnJ (k:Kn) (j:Nat):Prop where
 es:k.es.length<=j
 ls:k.ls.length<=j
 et:∀x∈k.es,x.2.1.length<=400
 lt:∀x∈k.ls,x.2.2.length<=1000∧∀s∈x.2.2,s.length<=1000000
theorem KnJ.ok{k:Kn}{j:Nat}(h:KnJ k j)(hj:j<=20):KnOk k:=⟨by have:=h.es;omega,by have:=h.ls;omega,h.et,h.lt⟩
theorem KnJ.with {k : Kn} {j : Nat} (h : KnJ k j) (q t : Bs) (b : Bool) (ht : t.length ≤ 400) : KnJ { k with es := k.es ++ [(q, t, b)] } (j + 1) :=
 ⟨by simp only [Qf, Qb, Qc]; have := h.es; omega, Nat.le_succ_of_le h.ls, fun x hx => by
  rcases List.mem_append.1 hx with hx | hx
  ·exact h.et x hx
  ·rw [Qd.1 hx]; exact ht, h.lt⟩
theorem KnJ.learn{k:Kn}{j:Nat}(h:KnJ k j){d:Dk}(hd:muchB d=false)(q:Bs)(li:Bool):KnJ (Bj k q li d) (j+1):=by
 cases li with
 |false=>
  refine h.with q _ _ ?_;cases hf:d.its.find? (λx=>decide (x.1=q))with
  |none=>exact Qa _
  |some x=>
   have:=(much_its hd x (Ql hf)).2;show x.2.1.length<=400;omega
 |true=>
  refine⟨Nat.le_succ_of_le h.es,by show(k.ls++_).length<=_;simp only[Qf,Qb,Qc];have:=h.ls;omega,h.et,λx hx=>?_⟩;rcases List.mem_append.1 hx with hx|hx
  ·exact h.lt x hx
  ·rw[Qd.1 hx];cases hf:d.lss.find? (λx=>decide (x.1=q))with
   |none=>exact⟨Qa _,λs hs=>by cases hs⟩
   |some x=>
    have h1:=much_lss hd x (Ql hf);exact⟨Qo h1.1 (by decide),λs hs=>Qo (h1.2 s hs) (by decide)⟩
theorem sim_learn{k k':Kn}(h:SimK k k')(q:Bs)(li:Bool)(d:Dk):SimK (Bj k q li d) (Bj k' q li d):=by
 cases li with
 |false=>
  refine⟨λq' hq=>?_,λq'=>h.2 q'⟩;have e:∀k:Kn,Bj k q false d={k with es:=k.es++[(q,((d.its.find? λx=>decide (x.1=q)).getD ([],[],false)).2)]}:=λ_=>rfl
  rw[e,e,ent_snoc,ent_snoc,h.1 q' hq]
 |true=>
  refine⟨λq' hq=>h.1 q' hq,λq'=>?_⟩;have e:∀k:Kn,Bj k q true d={k with ls:=k.ls++[(q,((d.lss.find? λx=>decide (x.1=q)).getD ([],true,[])).2)]}:=λ_=>rfl
  rw[e,e,lst_snoc,lst_snoc,h.2]
theorem sim_with{k k':Kn}(h:SimK k k'){q t:Bs}{b:Bool}(hq:q.head?=some 116):SimK k {k' with es:=k'.es++[(q,t,b)]}:=by
 refine⟨λq' hq'=>?_,λq'=>h.2 q'⟩;rw[ent_snoc,if_neg (λe=>hq' (by rw[←e];exact hq)),h.1 q' hq']
def kn0:Kn:=⟨[],[]⟩
theorem kn0_ok:KnJ kn0 0:=⟨Qm _,Qm _,λx hx=>(by cases hx),λx hx=>(by cases hx)⟩
end Go.Vd
namespace Go.Vd
open Go.Proofs
def dc4l0:DC:=(.seq (sr [mm 35 12,bi 36 .leq 35 3] (cd 36 .skip (.exit 0))) (.seq (.block 1 (sr [lk 39 5 7,lk 40 11 9,lk 41 5 10,cc 42 19 [(.t 39),(.t 40),(.t 41)],oo 13 (.alloc [(.str []),(.bool false),(.str []),(.slice true [] []),(.bool false),(.int .i64 0),(.str []),(.slice true [] []),(.slice true [] [])]),oz (.store 9 (.t 13) (.t 42))] (.seq (sr [ff 43 0 13,ll 44 43,oo 45 (.bin .eql (.t 44) (.c (.str [])))] (cd 45 (sr [lk 46 5 7,lk 47 11 9,lk 48 5 11,cc 49 19 [(.t 46),(.t 47),(.t 48)],oo 14 (.alloc [(.str []),(.bool false),(.str []),(.slice true [] []),(.bool false),(.int .i64 0),(.str []),(.slice true [] []),(.slice true [] [])]),oz (.store 9 (.t 14) (.t 49))] (sr [ff 50 2 13,ll 51 50,oo 52 (.bin .neq (.t 51) (.c (.str []))),mm 53 52,og 54 (.faddr 2 (.t 13)) 3 true,og 55 (.load none (.t 54)) 3 true,og 56 (.faddr 2 (.t 14)) 3 true,og 57 (.load none (.t 56)) 3 true,og 58 (.bin .eql (.t 55) (.t 57)) 3 true,oo 59 (.pick (.t 53) (.t 58) (.c (.bool false))),mm 60 59,og 61 (.faddr 3 (.t 13)) 10 true,og 62 (.load none (.t 61)) 10 true,og 63 (.faddr 3 (.t 14)) 10 true,og 64 (.load none (.t 63)) 10 true,og 65 (.call (.c (.fn 20 [])) [(.t 62),(.t 64)]) 10 true,oo 66 (.pick (.t 60) (.t 65) (.c (.bool false))),mm 67 66,og 68 (.call (.c (.fn 10 [])) []) 17 true,oo 69 (.pick (.t 67) (.t 68) (.c (.bool false))),mm 6 69] .ret)) .skip)) (.seq (.drawn [lk 70 5 10,lk 71 9 13,lk 72 2 5,cc 73 21 [(.t 70),(.t 71),(.t 72)],lk 74 5 11,lk 75 9 13,lk 76 2 5,cc 77 21 [(.t 74),(.t 75),(.t 76)],oz (.store 5 (.t 10) (.t 73)),oz (.store 5 (.t 11) (.t 77))] [(3,4),(3,5),(3,6)]) (.row [lk 78 5 11,ff 79 0 13,ll 80 79,oo 81 (.bin .add (.c (.str [116,47,110,111,110,101])) (.t 80)),cc 82 12 [(.t 78),(.t 81),(.c (.str [120])),(.c (.bool true))],oz (.store 5 (.t 11) (.t 82))]))))) (.row [mm 37 12,bi 38 .add 37 1,mm 12 38])))
def dc4:DC:=(sr [oo 3 (.box (.t 0)),oo 4 (.box (.t 1)),oo 5 (.box (.t 2)),cb 6 false] (.seq (sr [lk 15 5 3,cc 16 15 [(.t 15)],bi 17 .gtr 16 0,mm 18 17,og 19 (.load (some 11) (.t 4)) 3 false,og 20 (.call (.c (.fn 16 [])) [(.t 19)]) 3 false,og 21 (.bin .gtr (.t 20) (.c (.int .i64 0))) 3 false,oo 22 (.pick (.t 18) (.c (.bool true)) (.t 21)),mm 23 22,og 24 (.load (some 2) (.t 5)) 8 false,og 25 (.call (.c (.fn 9 [])) [(.t 24)]) 8 false,oo 26 (.pick (.t 23) (.c (.bool true)) (.t 25))] (cd 26 (sr [cc 27 10 [],mm 6 27] .ret) .skip)) (sr [lk 29 5 3,cc 30 17 [(.t 29)],mm 28 30,xx 31 0 28,xx 32 1 28,oo 7 (.alloc [(.bool false),(.int .i64 0),(.str []),(.slice true [] []),(.slice true [] [])]),oo 8 (.alloc [(.bool false),(.int .i64 0),(.str []),(.slice true [] []),(.slice true [] [])]),oz (.store 5 (.t 7) (.t 31)),oz (.store 5 (.t 8) (.t 32))] (sr [lk 33 11 4,cc 34 18 [(.t 33)],oo 9 (.alloc [(.int .u8 0),(.str []),(.str []),(.str []),(.int .i64 0),(.int .i64 0),(.bool false),(.slice true [] []),(.str []),(.slice true [] []),(.str [])]),oz (.store 11 (.t 9) (.t 34))] (sr [oo 10 (.alloc [(.slice true [] []),(.slice true [] []),(.slice true [] []),(.slice true [] []),(.slice true [] [])]),oo 11 (.alloc [(.slice true [] []),(.slice true [] []),(.slice true [] []),(.slice true [] []),(.slice true [] [])])] (.seq (sr [ci 12 0] (.block 0 (.loop dc4l0))) (sr [cb 6 false] .ret)))))))
theorem fn4:Fn Qh 4 83 dc4 [.t 6]:=Am func4
end Go.Vd
namespace Go.Vd
open Go.Proofs Go.RowKit
def n0:Vw:=keyV [107] false
def nT:List Mt:=[([97],2,false)]
def n1:Vw:={n0 with nlm:=false,ms:=nT}
def qA(op:Int)(tk pa:Bs)(n:Int):Ak:=⟨op,tk,pa,[],n,0,false,true,[],[],true,[],[]⟩
def rt:Bs:=[114,111,111,116]
def pab:Bs:=[97,47,98]
def nK0:Kn:=⟨[],[]⟩
def nK1:Kn:=⟨[([109,47,97,47,98],[],false)],[]⟩
def Dq(w r:Bs)(nl:Bool)(t:Id)(xs:List D)(v:Vw):List D:=[.str w,.bool false,.str r,.slice nl t xs]++vwC v
theorem outN_cells(w r:Bs)(nl:Bool)(t:Id)(xs:List D)(v:Vw):D.cells (.agg (Dq w r nl t xs v))=Dq w r nl t xs v:=rfl
theorem outN_len(w r:Bs)(nl:Bool)(t:Id)(xs:List D)(v:Vw):(Dq w r nl t xs v).length=9:=rfl
theorem rd_vwN{m:Mem}{i:Id}(v:Vw):Ai (m.put i 0 (vwC v)) i 0 5=some (vwC v):=AQ rfl
theorem D7{m:Mem}{i:Id}{cs:List D}{k:Nat}{d:D}(h:cs[k]?=some d):(m.put i 0 cs) i k=some d:=by
 have hk:=(List.getElem?_eq_some_iff.1 h).1;have:=Mem.put_same (m:=m) (i:=i) (o:=0) hk;rw[Qp]at this;rw[this,h]
theorem nv_ok(ms:List Mt)(nl:Bool)(h:ms.length<=1000∧∀m∈ms,m.1.length<=1000):VwOk {n0 with nlm:=nl,ms:=ms}:=⟨h.1,h.2,(show n0.ks.length<=1000 by decide),λk hk=>by
 have e:k=firstTk:=by simpa[n0,keyV]using hk
 subst e;exact⟨⟨by decide,by decide⟩,⟨by decide,λr hr=>by rw[Qd.1 hr];decide,λr hr=>by rw[Qd.1 hr];decide⟩⟩⟩
theorem n0_ok:VwOk n0:=nv_ok [] true ⟨by decide,λm hm=>by cases hm⟩
theorem n1_ok:VwOk n1:=nv_ok nT false ⟨by decide,λm hm=>by rw[Qd.1 hm];decide⟩
theorem qA_ok{op:Int}{tk pa:Bs}{n:Int}(h0:0<=op)(h1:op<256)(h2:tk.length<=1000)(h3:pa.length<=1000):AkOk (qA op tk pa n):=⟨h0,h1,h2,h3,Qa _,Qa _,Qa _,Qa _,λr hr=>(by cases hr),Qa _⟩
theorem nk_ok(k:Kn)(h:k=nK0∨k=nK1):KnOk k:=by
 rcases h with rfl|rfl
 ·exact⟨by decide,by decide,λx hx=>(by cases hx),λx hx=>(by cases hx)⟩
 ·exact⟨by decide,by decide,λx hx=>by rw[Qd.1 hx];decide,λx hx=>(by cases hx)⟩
theorem n19a:R19 DW Ee [vwD n0,akD (qA 1 [] [] 0),.agg (kwC nK0)]=some (.agg (Dq [] [111,107,32,111,112,101,110] true [] [] n0)):=by
 have h25:=F25_eq n0_ok (qA_ok (op:=1) (tk:=[]) (pa:=[]) (n:=0) (by decide) (by decide) (by decide) (by decide));rw[show refA n0 (qA 1 [] [] 0)=0 by kernel_rfl]at h25;have h:=Bo (G1:=DW) (G2:=Ee) (v:=n0) .o1 (qA 1 [] [] 0) nK0 rfl h25 _ _ (FZ ⟨n0,qA 1 [] [] 0,nK0⟩ (oc0 n0) (.state n0.se) (λ_=>rfl) trivial trivial);rw[show ocU {oc0 n0 with rep:=ryT (.state n0.se)}=Dq [] [111,107,32,111,112,101,110] true [] [] n0 by kernel_rfl]at h;exact h
theorem n19b:R19 DW Ee [vwD n0,akD (qA 9 rt pab 0),.agg (kwC nK0)]=some (.agg (Dq [] [101,114,114,111,114,32,49,52] true [] [] n0)):=by
 have h25:=F25_eq n0_ok (qA_ok (op:=9) (tk:=rt) (pa:=pab) (n:=0) (by decide) (by decide) (by decide) (by decide));rw[show refA n0 (qA 9 rt pab 0)=14 by kernel_rfl]at h25;have h:=R19_fail DW Ee n0 (qA 9 rt pab 0) nK0 14 (by decide) h25 _ _ (w54 n0 _ nK0 (by decide));rw[show ocU (failO n0 14)=Dq [] [101,114,114,111,114,32,49,52] true [] [] n0 by kernel_rfl]at h;exact h
theorem n19c:R19 DW Ee [vwD n0,akD (qA 5 rt [97] 2),.agg (kwC nK0)]=some (.agg (Dq [] [111,107] false [] [.agg [.int .u8 1,.str [115,47,109,111,117,110,116,115],.str (E5 nT)]] n1)):=by
 have h25:=F25_eq n0_ok (qA_ok (op:=5) (tk:=rt) (pa:=[97]) (n:=2) (by decide) (by decide) (by decide) (by decide));rw[show refA n0 (qA 5 rt [97] 2)=0 by kernel_rfl]at h25;have h45:=F45_eq (nl:=true) (t:=[]) (l:=[]) (m:=([97],2,false)) (by decide) (λ_=>rfl) (by decide);rw[show Fb [] ([97],2,false)=(some nT,0)by kernel_rfl]at h45;have h:=Bo (G1:=DW) (G2:=Ee) (v:=n0) .o5 (qA 5 rt [97] 2) nK0 rfl h25 _ _ (W58_ok ⟨n0,qA 5 rt [97] 2,nK0⟩ (oc0 n0) false nT h45 (oc00 n0) ⟨by decide,λm hm=>by rw[Qd.1 hm];decide⟩);rw[show ocU (mntO (oc0 n0) false nT)=Dq [] [111,107] false [] [.agg [.int .u8 1,.str [115,47,109,111,117,110,116,115],.str (E5 nT)]] n1 by kernel_rfl]at h;exact h
theorem n19d:R19 DW Ee [vwD n1,akD (qA 9 rt pab 0),.agg (kwC nK0)]=some (.agg (Dq [109,47,97,47,98] [] true [] [] n1)):=by
 have h25:=F25_eq n1_ok (qA_ok (op:=9) (tk:=rt) (pa:=pab) (n:=0) (by decide) (by decide) (by decide) (by decide));rw[show refA n1 (qA 9 rt pab 0)=0 by kernel_rfl]at h25;have h:=Bo (G1:=DW) (G2:=Ee) (v:=n1) .o9 (qA 9 rt pab 0) nK0 rfl h25 _ _ (W63_need ⟨n1,qA 9 rt pab 0,nK0⟩ (oc0 n1) _ _ _ (λ_=>rfl) (w135_need (nk_ok _ (.inl rfl)) (p:=pab) (by decide) (by kernel_rfl)));rw[show ocU (EM n1 (AZ 1 pab 0) false)=Dq [109,47,97,47,98] [] true [] [] n1 by kernel_rfl]at h;exact h
theorem n19e:R19 DW Ee [vwD n1,akD (qA 9 rt pab 0),.agg (kwC nK1)]=some (.agg (Dq [] [101,114,114,111,114,32,54] true [] [] n1)):=by
 have h25:=F25_eq n1_ok (qA_ok (op:=9) (tk:=rt) (pa:=pab) (n:=0) (by decide) (by decide) (by decide) (by decide));rw[show refA n1 (qA 9 rt pab 0)=0 by kernel_rfl]at h25;have h135:=FE (v:=n1) (a:=qA 9 rt pab 0) (nk_ok _ (.inr rfl)) (p:=pab) (by decide) (by kernel_rfl);rw[show(Dp (AM nK1 pab)).isSome=false by kernel_rfl]at h135;have h:=Bo (G1:=DW) (G2:=Ee) (v:=n1) .o9 (qA 9 rt pab 0) nK1 rfl h25 _ _ (W63_none ⟨n1,qA 9 rt pab 0,nK1⟩ (oc0 n1) _ _ _ (λ_=>rfl) h135 (w54 n1 _ nK1 (by decide)));rw[show ocU (failO n1 6)=Dq [] [101,114,114,111,114,32,54] true [] [] n1 by kernel_rfl]at h;exact h
theorem ok10n:(Ac trueF).ok Qh 10:=by
 obtain⟨S,hS,hl⟩:=A5 (Ab ok23 (Ab (ko19 ok131 ok134) (Ab ko12 (Ab ok27 (Ab ok29 (Ab ok25 Ad))))));have s23:=hl 23 _ rfl;have s19:=hl 19 _ rfl;have s12:=hl 12 _ rfl;have s27:=hl 27 _ rfl;have s29:=hl 29 _ rfl;have s25:=hl 25 _ rfl;clear hl;refine Ay hS fn10 (λds r h=>?_) (λds r h=>?_)
 ·unfold trueF at h;split at h
  ·simp
  ·cases h
 ·unfold trueF at h;split at h
  ·simp only[Qj]at h;subst h;have h23:F23 [.str [107]]=some (.agg (vwC n0)):=rfl;have ha:R19 DW Ee [.agg (vwC n0),.agg [.int .u8 1,.str [],.str [],.str [],.int .i64 0,.int .i64 0,.bool false,.slice true [] [],.str [],.slice true [] [],.str []],.agg [.slice true [] [],.slice true [] [],.slice true [] [],.slice true [] [],.slice true [] []]]=some (.agg (Dq [] [111,107,32,111,112,101,110] true [] [] n0)):=n19a;have hb:R19 DW Ee [.agg (vwC n0),.agg [.int .u8 9,.str [114,111,111,116],.str [97,47,98],.str [],.int .i64 0,.int .i64 0,.bool false,.slice true [] [],.str [],.slice true [] [],.str []],.agg [.slice true [] [],.slice true [] [],.slice true [] [],.slice true [] [],.slice true [] []]]=some (.agg (Dq [] [101,114,114,111,114,32,49,52] true [] [] n0)):=n19b;have hc:R19 DW Ee [.agg (vwC n0),.agg [.int .u8 5,.str [114,111,111,116],.str [97],.str [],.int .i64 2,.int .i64 0,.bool false,.slice true [] [],.str [],.slice true [] [],.str []],.agg [.slice true [] [],.slice true [] [],.slice true [] [],.slice true [] [],.slice true [] []]]=some (.agg (Dq [] [111,107] false [] [.agg [.int .u8 1,.str [115,47,109,111,117,110,116,115],.str (E5 nT)]] n1)):=n19c;have hd:R19 DW Ee [.agg (vwC n1),.agg [.int .u8 9,.str [114,111,111,116],.str [97,47,98],.str [],.int .i64 0,.int .i64 0,.bool false,.slice true [] [],.str [],.slice true [] [],.str []],.agg [.slice true [] [],.slice true [] [],.slice true [] [],.slice true [] [],.slice true [] []]]=some (.agg (Dq [109,47,97,47,98] [] true [] [] n1)):=n19d;have he:R19 DW Ee [.agg (vwC n1),.agg [.int .u8 9,.str [114,111,111,116],.str [97,47,98],.str [],.int .i64 0,.int .i64 0,.bool false,.slice true [] [],.str [],.slice true [] [],.str []],.agg [.slice false [] [.str [109,47,97,47,98]],.slice false [] [.str []],.slice false [] [.bool false],.slice true [] [],.slice true [] []]]=some (.agg (Dq [] [101,114,114,111,114,32,54] true [] [] n1)):=n19e;have h12:R12 [.agg [.slice true [] [],.slice true [] [],.slice true [] [],.slice true [] [],.slice true [] []],.str [109,47,97,47,98],.str [],.bool false]=some (.agg [.slice false [] [.str [109,47,97,47,98]],.slice false [] [.str []],.slice false [] [.bool false],.slice true [] [],.slice true [] []]):=R12_eq nK0 [109,47,97,47,98] [] false (by decide);have h27:F27 [.int .u8 10]=some (.int .u8 2):=by kernel_rfl
   have h29:F29 [.int .u8 18]=some (.bool true):=by kernel_rfl
   have h29b:F29 [.int .u8 9]=some (.bool false):=by kernel_rfl
   have h25:F25 [.agg (vwC n0),.agg [.int .u8 0,.str [],.str [],.str [],.int .i64 0,.int .i64 0,.bool false,.slice true [] [],.str [],.slice true [] [],.str []]]=some (.int .i64 22):=by
    have e:=F25_eq n0_ok (qA_ok (op:=0) (tk:=[]) (pa:=[]) (n:=0) (by decide) (by decide) (by decide) (by decide));rw[show refA n0 (qA 0 [] [] 0)=22 by kernel_rfl]at e;exact e
   have q0:∀(m:Mem)(i:Id)(w r:Bs)(nl:Bool)(t:Id)(xs:List D)(v:Vw),(m.put i 0 (Dq w r nl t xs v)) i 0=some (.str w):=λm i w r nl t xs v=>D7 rfl
   have q1:∀(m:Mem)(i:Id)(w r:Bs)(nl:Bool)(t:Id)(xs:List D)(v:Vw),(m.put i 0 (Dq w r nl t xs v)) i 1=some (.bool false):=λm i w r nl t xs v=>D7 rfl
   have q2:∀(m:Mem)(i:Id)(w r:Bs)(nl:Bool)(t:Id)(xs:List D)(v:Vw),(m.put i 0 (Dq w r nl t xs v)) i 2=some (.str r):=λm i w r nl t xs v=>D7 rfl
   have q3:∀(m:Mem)(i:Id)(w r:Bs)(nl:Bool)(t:Id)(xs:List D)(v:Vw),(m.put i 0 (Dq w r nl t xs v)) i 3=some (.slice nl t xs):=λm i w r nl t xs v=>D7 rfl
   have q4:∀(m:Mem)(i:Id)(w r:Bs)(nl:Bool)(t:Id)(xs:List D)(v:Vw),Ai (m.put i 0 (Dq w r nl t xs v)) i 4 5=some (vwC v):=λm i w r nl t xs v=>by
    simp only[Ai];rw[D7 (k:=4) (cs:=Dq w r nl t xs v) rfl,D7 (k:=4+1) (cs:=Dq w r nl t xs v) rfl,D7 (k:=4+1+1) (cs:=Dq w r nl t xs v) rfl,D7 (k:=4+1+1+1) (cs:=Dq w r nl t xs v) rfl,D7 (k:=4+1+1+1+1) (cs:=Dq w r nl t xs v) rfl];rfl
   unfold dc10;simp only[↓go1,gB2,go4,reduceIte,simprocAttr,ha,hb,hc,hd,he,Aa s23,h23,Aa s12,h12,q4,Aa s19,BH,CW,CD,Co,A_,BV,outN_cells,outN_len,rd_vwN,AG,ne_eq,and_self,List.take_succ_cons,List.take_zero,Qg,List.drop_zero,Qn,Qq,AQ];refine An.intro (Aj ?_) ?_
   ·simp only[Ax,List.all_cons,List.all_nil,List.getD,Qe,Qi,Option.getD_some,Aq,List.map_cons,List.map_nil,Qb,Qc,List.flatMap_cons,List.flatMap_nil,rds,↓go1,go2,reduceIte,Nat.reduceEqDiff];simp[Ae,Ac,s19,s12]
   simp only[↓go1,gB2,go4,reduceIte,simprocAttr,Aa s27,h27,Aa s29,h29,Aa s25,h25,h29b,q0,q1,q2,q3,BH,CD,Co,rd_vwN,AG,Mem.put_other,Int.toNat_zero,Int.cast_ofNat_Int,Int.le_refl,ne_eq,Qe,and_self,List.drop_zero,Qn,List.head?_cons,Qq]
   all_goals (first|rfl|exact⟨rfl,rfl⟩)
  ·cases h
theorem fold_mt:∀(ms:List Mt)(s:Bool×List Mt),(s.1=true->s.2=[])->((ms.foldl BM s).1=true->(ms.foldl BM s).2=[])∧(ms.foldl BM s).2.length<=s.2.length+ms.length
 |[],s,h=>⟨h,Qm _⟩
 |m::ms,s,h=>by
  rw[List.foldl_cons];have step:((BM s m).1=true->(BM s m).2=[])∧(BM s m).2.length<=s.2.length+1:=by
   unfold BM;rcases addE_bd2 s.2 m with ⟨l',e1,_,e3⟩|⟨e1,_⟩
   ·rw[e1];exact⟨λe=>(by cases e),Nat.le_of_eq e3⟩
   ·rw[e1];exact⟨h,Nat.le_succ _⟩
  obtain⟨a,b⟩:=fold_mt ms _ step.1;exact⟨a,by rw[Qb];omega⟩
theorem teV_bd(n:Int):1<=teV n∧teV n<=6:=by
 unfold teV;have h0:0<=IntKind.u64.wrap n:=by
  show 0<=n % (2 ^ 64:Int);exact Int.emod_nonneg _ (by decide)
 have h1:0<=(IntKind.u64.wrap n).tmod 6∧(IntKind.u64.wrap n).tmod 6<=5:=⟨Int.tmod_nonneg _ h0,by have:=Int.tmod_lt_of_pos (IntKind.u64.wrap n) (show(0:Int)<6 by decide);omega⟩;generalize (IntKind.u64.wrap n).tmod 6=q at h1;have e1:IntKind.i64.wrap q=q:=w64 (by omega) (by omega);rw[e1,w64 (by omega) (by omega)];omega
theorem see_view{v:Vw}(h:SeenOk v):ViewI (seeV v):=by
 have h1:=inv_fold v.ks (false,[firstTk]) inv_first rfl;have h2:=view_mounts v.ms;have h3:=fold_mt v.ms (true,[]) (λ_=>rfl);have hk:=h.kl;have hm:=h.ml;refine⟨see_ok h,h1.1,?_,h3.1,teV_bd v.te,?_,?_⟩
 ·show SortM (v.ms.foldl BM (true,[])).2;rw[h2.1];exact h2.2
 ·have:=h1.2.2;show(v.ks.foldl Bh (false,[firstTk])).2.length<=60;simp only[Qb,Qc]at this;omega
 ·have:=h3.2;show(v.ms.foldl BM (true,[])).2.length<=900;simp only[Qc]at this;omega
theorem own_ask{a:Ak}(h:AkOk a)(hc:DB a.rs):AskI (ownA a):=⟨⟨h.op0,h.op,h.tk,h.pa,h.ot,h.ns,h.da,h.rl,h.rs,h.key⟩,hc,λe=>List.isEmpty_iff.1 e⟩
theorem much_dk{d:Dk}(h:muchB d=false)(hn:∀x∈d.lss,x.2.1=true->x.2.2=[]):DkOk d:=by
 have h2:=much_lss h;unfold muchB at h;simp only[Qk,decide_eq_false_iff_not]at h;exact⟨by omega,by omega,λx hx=>⟨by have:=(h2 x hx).1;omega,hn x hx⟩⟩
def S4:Summs:=AF [(15,Ac F15),(16,Ac F16),(9,Ac R9),(10,Ac trueF),(17,Ac F17),(18,Ac F18),(19,Ac (R19 DW Ee)),(20,Ac R20),(21,Ac R21),(12,Ac R12)]
def R4:List D->Option D:=RF S4 dc4 [.t 6] 83
theorem ko4:(Ac R4).ok Qh 4:=AJ fn4 (Ab ok15 (Ab ok16 (Ab ko9 (Ab ok10n (Ab ok17 (Ab ok18 (Ab (ko19 ok131 ok134) (Ab ko20 (Ab ko21 (Ab ko12 Ad))))))))))
theorem rE4{m:Mem}{i j:Nat}{x:List D}{n:Nat}(h:j≠i):Ai (m.put [i] 0 x) [j] 0 n=Ai m [j] 0 n:=AG (by simp[h])
theorem kwC_len(k:Kn):(kwC k).length=5:=rfl
theorem kwC_u1(k:Kn):(kwC k).map D.un1=kwC k:=rfl
theorem kwC_c1(k:Kn):(kwC k).all D.calm1=true:=rfl
theorem dkC_u1(d:Dk):(dkC d).map D.un1=dkC d:=rfl
theorem dkC_c1(d:Dk):(dkC d).all D.calm1=true:=rfl
theorem ocU_len(o:Oc):(ocU o).length=9:=rfl
theorem ocU_u1(o:Oc):(ocU o).map D.un1=ocU o:=rfl
theorem ocU_c1(o:Oc):(ocU o).all D.calm1=true:=rfl
theorem ocU_0(o:Oc):(ocU o)[0]?=some (.str o.need):=rfl
theorem ocU_2(o:Oc):(ocU o)[2]?=some (.str o.rep):=rfl
theorem ocU_3(o:Oc):(ocU o)[3]?=some (.slice o.nl [] (Dr o.ops)):=rfl
theorem loop4{v:Vw}{a:Ak}{d:Dk}{dec:Kn->Oc}{R:Kn->Nat}(X:DecOk v a dec R)(hm:muchB d=false)(hd:DkOk d){Q:Ex->St->Prop}(hret:∀st,st.s 6= .bool true->Q .ret st):
  ∀(f j:Nat)(k k':Kn)(st:St) g,j+f=4->R k+j<=3->KnJ k j->KnJ k' (2*j)->SimK k k'->32<=st.c->st.s 7= .ptr [21] 0->st.s 9= .ptr [27] 0->st.s 10= .ptr [29] 0->st.s 11= .ptr [30] 0->st.s 5= .ptr [2] 0->st.s 12= .int .i64 (j:Int)->
   Ai st.m [21] 0 5=some (vwC v)->Ai st.m [27] 0 11=some (akC a)->Ai st.m [29] 0 5=some (kwC k)->Ai st.m [30] 0 5=some (kwC k')->Ai st.m [2] 0 2=some (dkC d)->A6 S4 [] dc4l0 Q st g
 |0,j,k,k',st,g,hj,hR,_,_,_,_,_,_,_,_,_,_,_,_,_,_,_=>by omega
 |f+1,j,k,k',st,g,hj,hR,hk,hk',hs,hc,h7,h9,h10,h11,h5,h12,m21,m27,m29,m30,m2=>by
  refine Af dc4l0.eq_1 ?_;have s10:S4 10=some (Ac trueF):=rfl;have s19:S4 19=some (Ac (R19 DW Ee)):=rfl;have s20:S4 20=some (Ac R20):=rfl;have s21:S4 21=some (Ac R21):=rfl;have s12:S4 12=some (Ac R12):=rfl;have t10:trueF []=some (.bool true):=rfl;have hko:=hk.ok (by omega);have hko':=hk'.ok (by omega);have h19:=X.run k hko;unfold vwD akD at h19;have hle:((j:Int)<=3)=True:=eq_true (by omega);obtain⟨st_s,st_m,st_c⟩:=st;simp only at hc h7 h9 h10 h11 h5 h12 m21 m27 m29 m30 m2;have oth:∀{m:Mem} {q n i:Nat} {x:List D},q<32->32<=i->Ai (m.put [i] 0 x) [q] 0 n=Ai m [q] 0 n:=λhq hi=>AG (by simp;omega)
  have sm9:∀{m:Mem} {i:Id} {o:Oc},Ai (m.put i 0 (ocU o)) i 0 9=some (ocU o):=AQ rfl;have sz9:∀{m:Mem} {i:Id} {x0 x1 x2 x3 x4 x5 x6 x7 x8:D},Ai (m.put i 0 [x0,x1,x2,x3,x4,x5,x6,x7,x8]) i 0 9=some [x0,x1,x2,x3,x4,x5,x6,x7,x8]:=AQ rfl;have sm5:∀{m:Mem} {i:Id} {k:Kn},Ai (m.put i 0 (kwC k)) i 0 5=some (kwC k):=AQ rfl;have nmf:∀{i j:Nat},i≠j->(([i]:Id)=[j])=False:=λh=>by simp[h]
  by_cases hn:(dec k).need=[]
  ·have hsim:=X.sim k k' hs;have h19':=X.run k' hko';rw[←hsim]at h19';unfold vwD akD at h19';have hrep:=X.rep k hko hn;have h20:=R20_eq (n1:=(dec k).nl) (n2:=(dec k).nl) (l:=(dec k).ops) (by have:=X.ops k hko;omega);simp (disch:=omega)only[↓go1,gB2,go4,reduceIte,simprocAttr,h7,h9,h10,h11,h12,hle,m21,m27,m29,m30,Aa s19,h19,h19',Aa s20,h20,Aa s10,t10,oth,sz9,nmf,hrep,CD,Co,Ca,Cb,kwC_u1,kwC_c1,ocU_len,and_self,Qg,Ag,ocU_0,ocU_2,ocU_3,hn];exact hret _ rfl
  ·have hlen:=X.nlen k hko;have h21:=λk (h1:k.es.length<=900) (h2:k.ls.length<=900)=>R21_eq k (dec k).need
   have e21:∀k0:Kn,k0.es.length<=900->k0.ls.length<=900->R21 [.agg (kwC k0),.agg (ocU (dec k)),.agg (dkC d)]=some (.agg (kwC (Bj k0 (dec k).need (dec k).li d))):=λk0 h1 h2=>R21_eq k0 _ _ d _ _ _ _ _ _ _ h1 h2 hd
   have a21:=e21 k (by have:=hk.es;omega) (by have:=hk.ls;omega);have b21:=e21 k' (by have:=hk'.es;omega) (by have:=hk'.ls;omega);have hl1:=hk.learn hm (dec k).need (dec k).li;have hl2:=hk'.learn hm (dec k).need (dec k).li;have h12w:=R12_eq (Bj k' (dec k).need (dec k).li d) ([116,47,110,111,110,101]++(dec k).need) [120] true (by have:=hl2.es;omega);have hls:=X.less k d hko hn;have hss:=sim_with (q:=[116,47,110,111,110,101]++(dec k).need) (t:=[120]) (b:=true) (sim_learn hs (dec k).need (dec k).li d) rfl;have hl3:=hl2.with ([116,47,110,111,110,101]++(dec k).need) [120] true (by decide);have hadd:AX .add (.str [116,47,110,111,110,101]) (.str (dec k).need)=some (.str ([116,47,110,111,110,101]++(dec k).need)):=add_s (by simp only[Qb,Qc];omega);simp (disch:=omega)only[↓go1,gB3,reduceIte,simprocAttr,h7,h9,h10,h11,h5,h12,hle,m21,m27,m29,m30,m2,Aa s19,h19,rE4,sm9,sz9,CD,Co,Ca,Cb,kwC_u1,kwC_c1,ocU_u1,ocU_c1,dkC_u1,dkC_c1,ocU_len,kwC_len,and_self,Qg,Qp,Ag,ocU_0,hn,Aa s21,a21,b21]
   (refine An.intro (Aj ?_) ?_;(first|rfl|(simp[Ax,Aq,rds,Ae];done)|(simp[Ax,Aq,rds,Ae,Ac];done)))
   have hj1:IntKind.i64.wrap ((j:Int)+1)=((j+1:Nat):Int):=w64 (by omega) (by omega);simp (disch:=omega)only[↓go1,gB3,reduceIte,simprocAttr,h11,h12,sm5,nmf,kwC_u1,kwC_c1,ocU_len,kwC_len,and_self,Qg,Qp,Ag,ocU_0,hadd,Aa s12,h12w,hj1];have low:∀{q n:Nat} {x1 x2 x3 x4 x5:List D},q≠29->q≠30->q<32->Ai (((((st_m.put [st_c+2+4] 0 x1).put [st_c+2+4] 0 x2).put [29] 0 x3).put [30] 0 x4).put [30] 0 x5) [q] 0 n=Ai st_m [q] 0 n:=λh1 h2 h3=>by
    rw[rE4 h2,rE4 h2,rE4 h1,rE4 (by omega),rE4 (by omega)]
   refine loop4 X hm hd hret f (j+1) _ _ _ _ (by omega) (by omega) hl1 hl3 hss (by show 32<=st_c+2+6+3+10+6+3;omega) h7 h9 h10 h11 h5 rfl ?_ ?_ ?_ ?_ ?_
   ·exact(low (by decide) (by decide) (by decide)).trans m21
   ·exact(low (by decide) (by decide) (by decide)).trans m27
   ·show Ai (((((st_m.put [st_c+2+4] 0 _).put [st_c+2+4] 0 _).put [29] 0 (kwC _)).put [30] 0 _).put [30] 0 _) [29] 0 5=_;rw[rE4 (by decide),rE4 (by decide)];exact AQ rfl
   ·exact AQ rfl
   ·exact(low (by decide) (by decide) (by decide)).trans m2
theorem R4_eq(v:Vw)(a:Ak)(d:Dk)(hr:∀k∈v.ks,rawT k)(h0:0<=a.op)(h1:a.op<256)(hc:DB a.rs)(hd:∀x∈d.lss,x.2.1=true->x.2.2=[]):R4 [vwD v,akD a,.agg (dkC d)]=some (.bool true):=by
 refine AH (Nat.le_of_ble_eq_true rfl) ?_;have s15:S4 15=some (Ac F15):=rfl;have s16:S4 16=some (Ac F16):=rfl;have s9:S4 9=some (Ac R9):=rfl;have s10:S4 10=some (Ac trueF):=rfl;have s17:S4 17=some (Ac F17):=rfl;have s18:S4 18=some (Ac F18):=rfl;have h15:F15 [.agg (vwC v)]=some (oneI (overS v)):=F15_eq;have h16:F16 [.agg (akC a)]=some (oneI (overA a)):=F16_eq;have h9:=R9_eq d;have h10:trueF []=some (.bool true):=rfl;have q0:Ai (((Mem.put (λ_ _=>none) [0] 0 (vwC v)).put [1] 0 (akC a)).put [2] 0 (dkC d)) [0] 0 5=some (vwC v):=by rw[AG (by decide),AG (by decide)];exact AQ rfl
 have q1:Ai (((Mem.put (λ_ _=>none) [0] 0 (vwC v)).put [1] 0 (akC a)).put [2] 0 (dkC d)) [1] 0 11=some (akC a):=by rw[AG (by decide)];exact AQ rfl
 have q2:Ai (((Mem.put (λ_ _=>none) [0] 0 (vwC v)).put [1] 0 (akC a)).put [2] 0 (dkC d)) [2] 0 2=some (dkC d):=AQ rfl;have hdc:(D.agg (dkC d)).cells=dkC d:=rfl;have hdu:List.map D.un1 (dkC d)=dkC d:=rfl;have hda:(dkC d).all D.calm1=true:=rfl;unfold dc4 vwD akD;cases hs:overS v with
 |true=>
  rw[hs]at h15;simp only[↓go1,gB3,reduceIte,simprocAttr,Dx,Aa s15,h15,Aa s10,h10,hdc,q0,CD,Co,A_,AK]
  all_goals (first|rfl|exact⟨rfl,rfl⟩)
 |false=>
  rw[hs]at h15;cases ho:overA a with
  |true=>
   rw[ho]at h16;simp only[↓go1,gB3,reduceIte,simprocAttr,Dx,oneI_f,Aa s15,h15,Aa s16,h16,Aa s10,h10,hdc,q0,q1,CD,Co,A_,Ca,Cb,AK]
   all_goals (first|rfl|exact⟨rfl,rfl⟩)
  |false=>
   rw[ho]at h16;cases hm:muchB d with
   |true=>
    rw[hm]at h9;simp only[↓go1,gB3,reduceIte,simprocAttr,oneI_f,Aa s15,h15,Aa s16,h16,Aa s9,h9,Aa s10,h10,hdc,hdu,hda,q0,q1,q2,CD,Co,A_,Ca,Cb,AK]
    all_goals (first|rfl|exact⟨rfl,rfl⟩)
   |false=>
    rw[hm]at h9;have sv:=seen_of hs hr;have sa:=ask_of ho h0 h1 hc;have h17:F17 [.agg (vwC v)]=some (.tup [.agg (vwC (seeV v)),.agg (vwC (docV v))]):=F17_eq sv;have h18:F18 [.agg (akC a)]=some (.agg (akC (ownA a))):=F18_eq sa.rl;simp only[↓go1,gB2,go4,reduceIte,simprocAttr,oneI_f,Aa s15,h15,Aa s16,h16,Aa s9,h9,Aa s17,h17,Aa s18,h18,hdc,hdu,hda,q0,q1,q2,CD,Co,A_,Ca,Cb,AK,rE4,AQ,BV,Bd,ne_eq,and_self,Qg];obtain⟨dec,R,X⟩:=dec_all (see_view sv) (own_ask sa hc);refine loop4 X hm (much_dk hm hd) (λst h=>?_) 4 0 kn0 kn0 _ _ rfl (X.le kn0) kn0_ok kn0_ok ⟨λ_ _=>rfl,λ_=>rfl⟩ (Qm 32) rfl rfl rfl rfl rfl rfl ?_ ?_ ?_ ?_ ?_
    ·simp only[↓go1,gB3,simprocAttr,h]
     all_goals (first|rfl|exact⟨rfl,rfl⟩)
    ·show Ai ((((((Mem.put _ [21] 0 (vwC (seeV v))).put [22] 0 _).put [27] 0 _).put [27] 0 _).put [29] 0 _).put [30] 0 _) [21] 0 5=_;rw[rE4 (by decide),rE4 (by decide),rE4 (by decide),rE4 (by decide),rE4 (by decide)];exact AQ rfl
    ·show Ai (((Mem.put _ [27] 0 (akC (ownA a))).put [29] 0 _).put [30] 0 _) [27] 0 11=_;rw[rE4 (by decide),rE4 (by decide)];exact AQ rfl
    ·show Ai ((Mem.put _ [29] 0 (kwC kn0)).put [30] 0 _) [29] 0 5=_;rw[rE4 (by decide)];exact AQ rfl
    ·exact AQ rfl
    ·show Ai ((((((((Mem.put (((Mem.put (λ_ _=>none) [0] 0 (vwC v)).put [1] 0 (akC a)).put [2] 0 (dkC d)) [21] 0 _).put [22] 0 _).put [21] 0 (vwC (seeV v))).put [22] 0 _).put [27] 0 _).put [27] 0 _).put [29] 0 _).put [30] 0 _) [2] 0 2=_;rw[rE4 (by decide),rE4 (by decide),rE4 (by decide),rE4 (by decide),rE4 (by decide),rE4 (by decide),rE4 (by decide),rE4 (by decide)];exact q2
section
variable{n:Nat}{ds:List D}
theorem fit_items(h:Fit Qh (n+3) 22 ds):∃(nl:Bool)(l:List (Bs×Bs×Bool)),ds=[.slice nl [] (l.map itD)]:=by
 obtain⟨nl,xs,rfl,hn,hx⟩:=Fit.slice underlying22 h;obtain⟨l,rfl,hl⟩:=all_map (f:=itD) (p:=λ_=>True) (xs:=xs) (λx hxx=>by
  obtain⟨cs,rfl,hf⟩:=hx x hxx;rw[show isSt Qh 38=true by kernel_rfl];have hf:=Fit.struct underlying38 hf;obtain⟨a,b,rfl,f1,a2,b2,rfl,f2,a3,b3,rfl,f3,rfl⟩:=hf;obtain⟨s,rfl⟩:=Fit.str underlying9 f1;obtain⟨s2,rfl⟩:=Fit.str underlying9 f2;obtain⟨c,rfl⟩:=Fit.bool underlying4 f3;exact⟨(s,s2,c),rfl,trivial⟩)
 exact⟨nl,l,rfl⟩
theorem fit_strs(h:Fit Qh (n+2) 28 ds):∃nl l,ds=[.slice nl [] (AB l)]∧(nl=true->l=[]):=by
 obtain⟨nl,xs,rfl,hn,hx⟩:=Fit.slice underlying28 h;obtain⟨l,rfl,hl⟩:=all_map (f:=D.str) (p:=λ_=>True) (xs:=xs) (λx hxx=>by
  obtain⟨cs,rfl,hf⟩:=hx x hxx;rw[show isSt Qh 9=false by kernel_rfl];obtain⟨s,rfl⟩:=Fit.str underlying9 hf;exact⟨s,rfl,trivial⟩)
 exact⟨nl,l,rfl,λe=>by simpa using hn e⟩
theorem fit_lists(h:Fit Qh (n+5) 24 ds):∃(nl:Bool)(l:List (Bs×Bool×List Bs)),ds=[.slice nl [] (l.map ltD)]∧∀x∈l,x.2.1=true->x.2.2=[]:=by
 obtain⟨nl,xs,rfl,hn,hx⟩:=Fit.slice underlying24 h;obtain⟨l,rfl,hl⟩:=all_map (f:=ltD) (p:=λx=>x.2.1=true->x.2.2=[]) (xs:=xs) (λx hxx=>by
  obtain⟨cs,rfl,hf⟩:=hx x hxx;rw[show isSt Qh 109=true by kernel_rfl];have hf:=Fit.struct underlying109 hf;obtain⟨a,b,rfl,f1,a2,b2,rfl,f2,rfl⟩:=hf;obtain⟨s,rfl⟩:=Fit.str underlying9 f1;obtain⟨nl2,l2,rfl,h2⟩:=fit_strs f2;exact⟨(s,nl2,l2),rfl,h2⟩)
 exact⟨nl,l,rfl,hl⟩
theorem fit_known(h:Fit Qh 8 26 ds):∃d:Dk,ds=dkC d∧∀x∈d.lss,x.2.1=true->x.2.2=[]:=by
 have h:=Fit.struct underlying26 h;obtain⟨a1,b1,rfl,f1,a2,b2,rfl,f2,rfl⟩:=h;obtain⟨n1,l1,rfl⟩:=fit_items f1;obtain⟨n2,l2,rfl,h2⟩:=fit_lists f2;exact⟨⟨n1,l1,n2,l2⟩,rfl,h2⟩
end
theorem needs_law{w:World}{v0 v1 v2:Value}(h0:∃v:Vw,(∀k∈v.ks,rawT k)∧Rep w (CE (allG w)) (.agg (vwC v)) v0)(h1:∃a:Ak,DB a.rs∧0<=a.op∧a.op<256∧Rep w (CE (allG w)) (.agg (akC a)) v1)(h2:∃d:Dk,(∀x∈d.lss,x.2.1=true->x.2.2=[])∧Rep w (CE (allG w)) (.agg (dkC d)) v2):
  Calls Qh 4 #[v0,v1,v2] w λe w'=>e= .returned (.bool true)∧Below w.heap.size w w':=by
 obtain⟨v,hv,r0⟩:=h0;obtain⟨a,ha,ho,ho2,r1⟩:=h1;obtain⟨d,hd,r2⟩:=h2;refine row_true ko4 (G:=allG w) (λb hb=>allG_out w b hb) (ds:=[.agg (vwC v),.agg (akC a),.agg (dkC d)]) (vs:=[v0,v1,v2]) rfl (λj d x hd hx=>?_) rfl rfl (R4_eq v a d hv ho ho2 ha hd)
 match j with
 |0=>simp only[Qe,Qj]at hd hx;subst hd hx;exact r0
 |1=>simp only[Qi,Qe,Qj]at hd hx;subst hd hx;exact r1
 |2=>simp only[Qi,Qe,Qj]at hd hx;subst hd hx;exact r2
 |j+3=>simp at hd
end Go.Vd
end
