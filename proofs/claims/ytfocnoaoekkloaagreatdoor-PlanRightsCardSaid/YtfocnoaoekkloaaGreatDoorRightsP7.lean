/-
  A part of the proof: the program at hand. Nothing in it is assumed.
-/
import Derived.Test.YtfocnoaoekkloaaGreatDoorRightsP6
import Derived.Test.YtfocnoaoekkloaaGreatDoorProg
import Derived.Lib.AppendZeros
import Derived.WalkKit
import Derived.Deep.Slices
import Derived.Deep.Fields
import Derived.ChangeSame
import Derived.ChangeArms

set_option linter.unusedSimpArgs false
set_option linter.unusedVariables false
set_option linter.defProp false
set_option maxHeartbeats 4000000
set_option maxRecDepth 100000
open Nat renaming zero_le→Qa,le_trans→Qu
open List renaming getElem?_eq_getElem→Qb,getElem?_cons_zero→Qc,length_cons→Qg,length_append→Qh,mem_singleton→Qi,getElem?_append_right→Qk,getElem?_append_left→Ql,length_nil→Qm,getElem?_cons_succ→Qp,getElem_of_mem→Qr,getElem?_eq_some_iff→Qt,mem_cons_of_mem→Qw,drop_succ_cons→Qx,mem_map→Qy
open Go.Proofs.Tryz renaming prog→Qd
open Bool renaming and_eq_true→Qe,or_eq_false_iff→Qn,or_eq_true→Qv
open Option.some renaming injEq→Qf
open Option renaming isSome_some→Qj,getD_some→Qo
open Int renaming toNat_of_nonneg→Qq
open Array renaming getElem?_eq_some_iff→Qs
open List.cons renaming injEq→Qz
open Go.Proofs.Tryz
noncomputable section
namespace Go.Vd
open Go.Proofs Go.RowKit
def key_len(k:Int)(p:Bs)(n:Int):(AZ k p n).length<=p.length+8:=by
 unfold AZ
 repeat' split
 all_goals (first|(simp only[Qh,Qg,Qm];omega)|exact Qa _)
def key1_head(p:Bs):(AZ 1 p 0).head?≠some 116:=by
 unfold AZ;split
 ·decide
 ·rw[if_pos rfl];simp
def key2_head(p:Bs)(n:Int):(AZ 2 p n).head?≠some 116:=by
 unfold AZ;split
 ·decide
 ·rw[if_neg (by decide),if_pos rfl];simp
def key1_ne{p:Bs}(h:AW p=0):AZ 1 p 0≠[]:=by
 unfold AZ DT;simp[h]
def key2_ne{p:Bs}{n:Int}(h:AW p=0)(h1:1<=n∧n<=30):AZ 2 p n≠[]:=by
 unfold AZ DT;simp[h,h1]
def read_bd(s:Sc)(n:Int):0<=(readS s n).2∧(readS s n).2<=99:=by
 unfold readS
 repeat' split
 ·exact(by decide:(0:Int)<=2∧(2:Int)<=99)
 ·exact(by decide:(0:Int)<=6∧(6:Int)<=99)
 ·exact(by decide:(0:Int)<=21∧(21:Int)<=99)
 ·exact(by decide:(0:Int)<=0∧(0:Int)<=99)
def read_row{s:Sc}(hs:ScI s){n:Int}(h:(readS s n).2=0):1<=(readS s n).1.1∧(readS s n).1.1<=30:=by
 have hb:=bad_out hs.bad;unfold readS at h ⊢;split at h
 ·cases h
 ·rename_i h1;rw[if_neg h1];split at h
  ·cases h
  ·rename_i h2;rw[if_neg h2];split at h
   ·cases h
   ·rename_i h3;rw[if_neg h3];have hlt:FL s n<s.rs.length:=by
     unfold FL;split
     ·omega
     ·exact placeR_lt _ _
    simp only[List.getD];rw[Qb (by omega)];have hm:=ris_bd hb.2.2.2.2.1 _ (List.getElem_mem (l:=s.rs) (n:=(FL s n).toNat) (by omega));have he:(s.rs.getLast?.map (·.1)).getD 0=newE s.rs:=by unfold newE;cases s.rs.getLast?<;>rfl
    rw[he,hb.2.2.2.2.2]at hm;simp only[Qo];omega
def DP(v:Vw)(a:Ak)(k:Kn):Oc:=
 if(AJ k a.pa).2.2=false then EA v (AZ 1 a.pa 0) false
 else if a.op=10 then writeE v a.pa (secG (DA (AJ k a.pa))) a.cas a.da
 else if a.op=15 then turnE v a.pa (Ee (secG (DA (AJ k a.pa))) (B9 v a.pa).1 a.n a.fl).1 (Ee (secG (DA (AJ k a.pa))) (B9 v a.pa).1 a.n a.fl).2.1 (Ee (secG (DA (AJ k a.pa))) (B9 v a.pa).1 a.n a.fl).2.2
 else match DA (AJ k a.pa)with
  |none=>failO v 6
  |some s=>if a.op=14 then {oc0 v with rep:=ryT (.about s)}else if a.op=16 then {FB (oc0 v) a.pa s.rs with rep:=ryT .done}
   else if a.op=11 then turnE v a.pa (BC s a.ns 250).1 [] (BC s a.ns 250).2.2 else if a.op=12 then turnE v a.pa (BC s a.ns 251).1 [] (BC s a.ns 251).2.2
   else turnE v a.pa (BC s a.ns 252).1 (BC s a.ns 252).2.1 (BC s a.ns 252).2.2
def wc64{v:Vw}{a:Ak}{k:Kn}(hv:ViewI v)(ha:AskI a)(hk:KnOk k)(hop:10<=a.op∧a.op<=16):∃ol,W64 ⟨v,a,k⟩ (oc0 v) []=some (.tup [],DP v a k,ol):=by
 have hp:a.pa.length<=1000000:=by have:=ha.ok.pa;omega
 have hd:a.da.length<=1000000:=by have:=ha.ok.da;omega
 have hn:=ha.ok.ns;unfold DP;cases hm:(AJ k a.pa).2.2 with
 |false=>
  rw[if_pos rfl];exact⟨_,W64_need ⟨v,a,k⟩ (oc0 v) _ _ _ (λ_=>rfl) (w135_need hk hp hm)⟩
 |true=>
  rw[if_neg (by decide)];have h135:=FQ (v:=v) (a:=a) hk hp hm;have hsg:=FW (AJ k a.pa);by_cases h10:a.op=10
  ·rw[if_pos h10];obtain⟨ol,h138⟩:=w138 (a:=a) (k:=k) hv hp hsg (cas:=a.cas) (data:=a.da) hd;exact⟨_,W64_write ⟨v,a,k⟩ (oc0 v) _ _ _ _ (λ_=>rfl) h135 h10 h138⟩
  rw[if_neg h10];by_cases h15:a.op=15
  ·rw[if_pos h15];have hl:=hsg.len;obtain⟨b1,b2,b3⟩:=confS_bd hl (B9 v a.pa).1 a.n a.fl;obtain⟨ol,h141⟩:=w141 (v:=v) (a:=a) (k:=k) (s:=(Ee (secG (DA (AJ k a.pa))) (B9 v a.pa).1 a.n a.fl).1) (by omega) (gnl:=decide ((Ee (secG (DA (AJ k a.pa))) (B9 v a.pa).1 a.n a.fl).2.1=[])) (gone:=(Ee (secG (DA (AJ k a.pa))) (B9 v a.pa).1 a.n a.fl).2.1) (by omega) b1 hp;exact⟨_,W64_config ⟨v,a,k⟩ (oc0 v) _ _ _ _ (λ_=>rfl) h135 h15 (B9 v a.pa).1 (B9 v a.pa).2 _ _ _ _ h141 (W140_eq ⟨v,a,k⟩ (oc0 v) a.pa (λ_=>rfl) (by have:=hv.ml;simp only;omega)) (R139_eq _ _ _ _ _ (by omega) hsg.nl)⟩
  rw[if_neg h15];cases hs:DA (AJ k a.pa)with
  |none=>
   rw[hs]at h135;exact⟨_,W64_none ⟨v,a,k⟩ (oc0 v) _ _ _ (λ_=>rfl) h135 h10 h15 (w54 v a k (by decide))⟩
  |some s=>
   rw[hs]at h135;have hsi:=secT_ok hs;have hl:=hsi.len;simp only;by_cases h14:a.op=14
   ·rw[if_pos h14];exact⟨_,W64_about ⟨v,a,k⟩ (oc0 v) s _ _ (λ_=>rfl) h135 h14 (Gi ⟨v,a,k⟩ (oc0 v) (.about s) (λ_=>rfl) (show s.rs.length<=1000 by omega) trivial)⟩
   rw[if_neg h14];by_cases h16:a.op=16
   ·rw[if_pos h16];exact⟨_,W64_purge ⟨v,a,k⟩ (oc0 v) s _ _ (λ_=>rfl) h135 h16 (W142_eq ⟨v,a,k⟩ (oc0 v) s (oc00 v) (by omega) hp)⟩
   rw[if_neg h16];by_cases h11:a.op=11
   ·rw[if_pos h11];obtain⟨b1,b2,b3⟩:=Fw hl a.ns 250;obtain⟨ol,h141⟩:=w141 (v:=v) (a:=a) (k:=k) (s:=(BC s a.ns 250).1) (by omega) (gnl:=true) (gone:=[]) (Qa _) b1 hp;exact⟨_,W64_delete ⟨v,a,k⟩ (oc0 v) s _ _ (λ_=>rfl) h135 h11 _ _ h141 (R143_eq s _ _ (by omega) hsi.nl hn)⟩
   rw[if_neg h11];by_cases h12:a.op=12
   ·rw[if_pos h12];obtain⟨b1,b2,b3⟩:=Fw hl a.ns 251;obtain⟨ol,h141⟩:=w141 (v:=v) (a:=a) (k:=k) (s:=(BC s a.ns 251).1) (by omega) (gnl:=true) (gone:=[]) (Qa _) b1 hp;exact⟨_,W64_undelete ⟨v,a,k⟩ (oc0 v) s _ _ (λ_=>rfl) h135 h12 _ _ h141 (R144_eq s _ _ (by omega) hsi.nl hn)⟩
   rw[if_neg h12];have h13:a.op=13:=by omega
   obtain⟨b1,b2,b3⟩:=Fw hl a.ns 252;obtain⟨ol,h141⟩:=w141 (v:=v) (a:=a) (k:=k) (s:=(BC s a.ns 252).1) (by omega) (gnl:=decide ((BC s a.ns 252).2.1=[])) (gone:=(BC s a.ns 252).2.1) (by omega) b1 hp;exact⟨_,W64_destroy ⟨v,a,k⟩ (oc0 v) s _ _ (λ_=>rfl) h135 h13 _ _ _ _ h141 (R145_eq s _ _ (by omega) hsi.nl hn)⟩
def Cu{v:Vw}{a:Ak}{k:Kn}(hr:AW a.pa=0):((DP v a k).need=[]->Gr (DP v a k).rep)∧(DP v a k).ops.length<=1000∧((AJ k a.pa).2.2=true->(DP v a k).need=[])∧((AJ k a.pa).2.2=false->DP v a k=EA v (AZ 1 a.pa 0) false):=by
 have hsg:=FW (AJ k a.pa);have hl:=hsg.len;unfold DP;cases hm:(AJ k a.pa).2.2 with
 |false=>
  rw[if_pos rfl];exact⟨λe=>absurd e (key1_ne hr),Qa _,λe=>(by cases e),λ_=>rfl⟩
 |true=>
  rw[if_neg (by decide)];have mk:∀o:Oc,(o.need=[]∧Gr o.rep∧o.ops.length<=1000)->(o.need=[]->Gr o.rep)∧o.ops.length<=1000∧(true=true->o.need=[])∧(true=false->o=EA v (AZ 1 a.pa 0) false):=λo h=>⟨λ_=>h.2.1,h.2.2,λ_=>h.1,λe=>by cases e⟩
  apply mk;by_cases h10:a.op=10
  ·rw[if_pos h10];exact writeE_ok hsg
  rw[if_neg h10];by_cases h15:a.op=15
  ·rw[if_pos h15];obtain⟨b1,b2,b3⟩:=confS_bd hl (B9 v a.pa).1 a.n a.fl;exact turnE_ok (by omega) b1
  rw[if_neg h15];cases hs:DA (AJ k a.pa)with
  |none=>exact⟨rfl,Cd (by decide),Qa _⟩
  |some s=>
   have hsi:=secT_ok hs;have hl:=hsi.len;simp only;by_cases h14:a.op=14
   ·rw[if_pos h14];exact⟨rfl,gr_T (y:= .about s) (if_neg (by rw[hsi.bad];decide)) trivial,Qa _⟩
   rw[if_neg h14];by_cases h16:a.op=16
   ·rw[if_pos h16];refine⟨rfl,gr_T (y:= .done) rfl trivial,?_⟩;have:(Fo s.rs).length<=s.rs.length:=by unfold Fo;rw[List.length_map];exact List.length_filter_le _ _
    simp only[FB,BF,Oc.op,oc0,Qh,Qg,Qm,List.length_map];omega
   rw[if_neg h16];by_cases h11:a.op=11
   ·rw[if_pos h11];exact turnE_ok (Qa _) (Fw hl a.ns 250).1
   rw[if_neg h11];by_cases h12:a.op=12
   ·rw[if_pos h12];exact turnE_ok (Qa _) (Fw hl a.ns 251).1
   rw[if_neg h12];obtain⟨b1,b2,b3⟩:=Fw hl a.ns 252;exact turnE_ok (by omega) b1
def dec_change{v:Vw}{a:Ak}(hv:ViewI v)(ha:AskI a)(h25:F25 [vwD v,akD a]=some (.int .i64 0))(hr:AW a.pa=0)(hop:10<=a.op∧a.op<=16):DecOk v a (DP v a) (λk=>if(AJ k a.pa).2.2=true then 0 else 1):=by
 refine⟨λk hk=>?_,λk=>?_,λk d hk hn=>?_,λk hk hn=>(Cu hr).1 hn,λk hk hn=>?_,λk k' hs=>?_,λk hk=>(Cu hr).2.1,λk hk=>?_⟩
 ·obtain⟨ol,h⟩:=wc64 hv ha hk hop;rcases(by omega:a.op=10∨a.op=11∨a.op=12∨a.op=13∨a.op=14∨a.op=15∨a.op=16)with e|e|e|e|e|e|e
  ·exact Bp .o10 a k e h25 _ _ h
  ·exact Bp .o11 a k e h25 _ _ h
  ·exact Bp .o12 a k e h25 _ _ h
  ·exact Bp .o13 a k e h25 _ _ h
  ·exact Bp .o14 a k e h25 _ _ h
  ·exact Bp .o15 a k e h25 _ _ h
  ·exact Bp .o16 a k e h25 _ _ h
 ·split<;>decide
 ·cases hm:(AJ k a.pa).2.2 with
  |true=>exact absurd ((Cu (v:=v) hr).2.2.1 hm) hn
  |false=>
   rw[(Cu (v:=v) hr).2.2.2 hm];show(if(CI (BL k (AZ 1 a.pa 0) false d) (AZ 1 a.pa 0)).2.2=true then 0 else 1)<_;rw[(F4 k _ d _).1 rfl];decide
 ·cases hm:(AJ k a.pa).2.2 with
  |true=>exact absurd ((Cu (v:=v) hr).2.2.1 hm) hn
  |false=>exact⟨_,_,(Cu (v:=v) hr).2.2.2 hm⟩
 ·have:AJ k a.pa=AJ k' a.pa:=hs.1 _ (key1_head _);unfold DP;rw[this]
 ·have hl:=key_len 1 a.pa 0;have:=ha.ok.pa;cases hm:(AJ k a.pa).2.2 with
  |true=>rw[(Cu (v:=v) hr).2.2.1 hm];exact Qa _
  |false=>rw[(Cu (v:=v) hr).2.2.2 hm];show(AZ 1 a.pa 0).length<=_;omega
def listE(v:Vw)(a:Ak)(k:Kn):Oc:=
 if(EB k ([109,47]++a.pa++[47])).2.2=false then EA v ([109,47]++a.pa++[47]) true
 else {oc0 v with rep:=ryT (.names (decide (FG a.pa (BQ (EB k ([109,47]++a.pa++[47])).2.1)=[])) ((chB a.pa (BQ (EB k ([109,47]++a.pa++[47])).2.1)).take 64))}
def kid_nil{top:Bs}{l:List Bs}(h:FG top l=[]):chB top l=[]:=by unfold chB srtB;rw[h,List.mergeSort_nil];rfl
def paths_bd{l:List Bs}(h:∀s∈l,s.length<=1000000):∀s∈BQ l,s.length<=1000000:=λs hs=>Qu (route_len (paths_route hs)) (by decide)
def dec_list{v:Vw}{a:Ak}(hv:ViewI v)(ha:AskI a)(h25:F25 [vwD v,akD a]=some (.int .i64 0))(hop:a.op=17):DecOk v a (listE v a) (λk=>if(EB k ([109,47]++a.pa++[47])).2.2=true then 0 else 1):=by
 have hp:a.pa.length<=1000000:=by have:=ha.ok.pa;omega
 refine⟨λk hk=>?_,λk=>?_,λk d hk hn=>?_,λk hk hn=>?_,λk hk hn=>?_,λk k' hs=>?_,λk hk=>?_,λk hk=>?_⟩
 ·have hkl:k.ls.length<=1000:=by have:=hk.ls;omega
  have h132:=R132_eq k ([109,47]++a.pa++[47]) hkl;unfold listE;cases hm:(EB k ([109,47]++a.pa++[47])).2.2 with
  |false=>
   rw[if_pos rfl];rw[hm]at h132;exact Bp .o17 a k hop h25 _ _ (W62_need Ep ⟨v,a,k⟩ (oc0 v) _ _ (λ_=>rfl) _ _ hp h132 (W133_eq ⟨v,a,k⟩ (oc0 v) _ _ (oc00 v)))
  |true=>
   rw[if_neg (by decide)];rw[hm]at h132;obtain⟨b1,b2⟩:=lst_ok hk ([109,47]++a.pa++[47]);generalize (EB k ([109,47]++a.pa++[47])).2.1=found at *;have hpl:=paths_len found;have hcl:=ch_len a.pa (BQ found);exact Bp .o17 a k hop h25 _ _ (W62_ok Ep ⟨v,a,k⟩ (oc0 v) _ (λ_=>rfl) _ _ hp h132 b1 b2 (decide (FG a.pa (BQ found)=[])) (chB a.pa (BQ found)) (λb _=>G134_eq (by omega) (paths_bd b2)) (by omega) (λe=>kid_nil (of_decide_eq_true e)) (Gi ⟨v,a,k⟩ (oc0 v) (.names _ _) (λ_=>rfl) (by show((chB a.pa (BQ found)).take 64).length<=1000;rw[List.length_take];omega) (λe=>by rw[kid_nil (of_decide_eq_true e)];rfl)))
 ·split<;>decide
 ·unfold listE at hn ⊢;cases hm:(EB k ([109,47]++a.pa++[47])).2.2 with
  |true=>rw[hm,if_neg (by decide)]at hn;exact absurd rfl hn
  |false=>
   rw[if_pos rfl];show(if(EB (BL k ([109,47]++a.pa++[47]) true d) ([109,47]++a.pa++[47])).2.2=true then 0 else 1)<_;rw[learn_l];decide
 ·unfold listE at hn ⊢;cases hm:(EB k ([109,47]++a.pa++[47])).2.2 with
  |false=>rw[hm,if_pos rfl]at hn;simp[EA]at hn
  |true=>
   rw[if_neg (by decide)];exact gr_T (y:= .names _ _) (if_pos ⟨by rw[List.length_take];omega,ch_names _ _⟩) (λe=>by rw[kid_nil (of_decide_eq_true e)];rfl)
 ·unfold listE at hn ⊢;cases hm:(EB k ([109,47]++a.pa++[47])).2.2 with
  |true=>rw[hm,if_neg (by decide)]at hn;exact absurd rfl hn
  |false=>exact⟨_,_,if_pos rfl⟩
 ·unfold listE;rw[hs.2]
 ·unfold listE;split<;>exact Qa _
 ·have:=ha.ok.pa;unfold listE;split
  ·simp only[EA,Qh,Qg,Qm];omega
  ·exact Qa _
def numA(a:Ak):Int:=if a.op=18 then 0 else a.n
def DU(k:Kn)(a:Ak):Rw×Int:=readS (secG (DA (AJ k a.pa))) (numA a)
def BN(k:Kn)(a:Ak):Bs:=AZ 2 a.pa (DU k a).1.1
def textE(k:Kn)(a:Ak):Bs:=if(CI k (BN k a)).2.1=true then(CI k (BN k a)).1 else []
def EI(v:Vw)(a:Ak)(k:Kn):Oc:=
 if(AJ k a.pa).2.2=false then EA v (AZ 1 a.pa 0) false
 else if(DA (AJ k a.pa)).isSome=false then failO v 6
 else if(DU k a).2≠0 then failO v (DU k a).2
 else if(CI k (BN k a)).2.2=false then EA v (BN k a) false
 else if a.op=9 then {oc0 v with rep:=ryT (.found (DU k a).1.1 (textE k a))}
 else if(AJ k a.ot).2.2=false then EA v (AZ 1 a.ot 0) false
 else writeE v a.ot (secG (DA (AJ k a.ot))) (-1) (textE k a)
section
variable{v:Vw}{a:Ak}{k:Kn}
def text_len(hk:KnOk k):(textE k a).length<=400:=by
 unfold textE;split
 ·exact ent_len hk _
 ·exact Qa _
def rwd_eta(r:Rw):rwD r= .agg [.int .i64 r.1,.bool r.2.1,.bool r.2.2]:=rfl
def wc63(hv:ViewI v)(ha:AskI a)(hk:KnOk k)(hop:a.op=9∨a.op=18):∃ol,W63 ⟨v,a,k⟩ (oc0 v) []=some (.tup [],EI v a k,ol):=by
 have hp:a.pa.length<=1000000:=by have:=ha.ok.pa;omega
 have hq:a.ot.length<=1000000:=by have:=ha.ok.ot;omega
 have hkl:k.es.length<=1000:=by have:=hk.es;omega
 have htl:=text_len (a:=a) hk;unfold EI;cases hm:(AJ k a.pa).2.2 with
 |false=>
  rw[if_pos rfl];exact⟨_,W63_need ⟨v,a,k⟩ (oc0 v) _ _ _ (λ_=>rfl) (w135_need hk hp hm)⟩
 |true=>
  rw[if_neg (by decide)];have h135:=FQ (v:=v) (a:=a) hk hp hm;have hsg:=FW (AJ k a.pa);have hl:=hsg.len;cases hs:(DA (AJ k a.pa)).isSome with
  |false=>
   rw[if_pos rfl];rw[hs]at h135;exact⟨_,W63_none ⟨v,a,k⟩ (oc0 v) _ _ _ (λ_=>rfl) h135 (w54 v a k (by decide))⟩
  |true=>
   rw[if_neg (by decide)];rw[hs]at h135;have h136:=R136_eq (secG (DA (AJ k a.pa))) (numA a) (by omega);rw[rwd_eta]at h136;have hrb:=read_bd (secG (DA (AJ k a.pa))) (numA a);have h123:=CB 2 (DU k a).1.1 a.pa hp;have h137:=R137_eq k (BN k a) hkl;unfold textE at htl ⊢;unfold DU BN DU at *;generalize readS (secG (DA (AJ k a.pa))) (numA a)=row at *;obtain⟨⟨n,r1,r2⟩,e⟩:=row;simp only at *;by_cases he:e≠0
   ·rw[if_pos he];rcases hop with h9|h18
    ·have hnum:numA a=a.n:=by unfold numA;rw[h9];rfl
     rw[hnum]at h136;exact⟨_,W63_fail9 ⟨v,a,k⟩ (oc0 v) _ _ _ (λ_=>rfl) h135 h9 n e r1 r2 h136 he (w54 v a k (by omega))⟩
    ·have hnum:numA a=0:=by unfold numA;rw[if_pos h18]
     rw[hnum]at h136;exact⟨_,W63_fail18 ⟨v,a,k⟩ (oc0 v) _ _ _ (λ_=>rfl) h135 h18 n e r1 r2 h136 he (w54 v a k (by omega))⟩
   ·rw[if_neg he];obtain rfl:=Decidable.not_not.1 he;generalize AZ 2 a.pa n=q at *;generalize CI k q=en at *;obtain⟨t1,t2,t3⟩:=en;simp only at *;rcases hop with h9|h18
    ·have hnum:numA a=a.n:=by unfold numA;rw[h9];rfl
     rw[hnum]at h136;cases t3 with
     |false=>
      rw[if_pos rfl];exact⟨_,W63_need9 ⟨v,a,k⟩ (oc0 v) _ _ _ (λ_=>rfl) h135 h9 n r1 r2 h136 q _ _ h123 h137 (W133_eq ⟨v,a,k⟩ (oc0 v) q false (oc00 v))⟩
     |true=>
      rw[if_neg (by decide),if_pos h9];cases t2 with
      |true=>exact⟨_,W63_read_in ⟨v,a,k⟩ (oc0 v) _ _ _ (λ_=>rfl) h135 h9 n r1 r2 h136 q _ h123 h137 (Gi ⟨v,a,k⟩ (oc0 v) (.found n t1) (λ_=>rfl) trivial trivial)⟩
      |false=>exact⟨_,W63_read_out ⟨v,a,k⟩ (oc0 v) _ _ _ (λ_=>rfl) h135 h9 n r1 r2 h136 q _ h123 h137 (Gi ⟨v,a,k⟩ (oc0 v) (.found n []) (λ_=>rfl) trivial trivial)⟩
    ·have hnum:numA a=0:=by unfold numA;rw[if_pos h18]
     have h9:¬a.op=9:=by omega
     rw[hnum]at h136;cases t3 with
     |false=>
      rw[if_pos rfl];exact⟨_,W63_need18 ⟨v,a,k⟩ (oc0 v) _ _ _ (λ_=>rfl) h135 h18 n r1 r2 h136 q _ _ h123 h137 (W133_eq ⟨v,a,k⟩ (oc0 v) q false (oc00 v))⟩
     |true=>
      rw[if_neg (by decide),if_neg h9];cases hm2:(AJ k a.ot).2.2 with
      |false=>
       rw[if_pos rfl];have h135b:=w135_need (v:=v) (a:=a) hk hq hm2;cases t2 with
       |true=>exact⟨_,W63_copy_need_in ⟨v,a,k⟩ (oc0 v) _ _ (λ_=>rfl) h135 h18 n r1 r2 h136 q _ h123 h137 _ _ h135b⟩
       |false=>exact⟨_,W63_copy_need_out ⟨v,a,k⟩ (oc0 v) _ _ (λ_=>rfl) h135 h18 n r1 r2 h136 q _ h123 h137 _ _ h135b⟩
      |true=>
       rw[if_neg (by decide)];have h135b:=FQ (v:=v) (a:=a) hk hq hm2;cases t2 with
       |true=>
        obtain⟨ol,h138⟩:=w138 (a:=a) (k:=k) hv hq (FW (AJ k a.ot)) (cas:=-1) (data:=t1) (by simp only[if_true]at htl;omega);exact⟨_,W63_copy_in ⟨v,a,k⟩ (oc0 v) _ _ _ (λ_=>rfl) h135 h18 n r1 r2 h136 q _ h123 h137 _ _ h135b h138⟩
       |false=>
        obtain⟨ol,h138⟩:=w138 (a:=a) (k:=k) hv hq (FW (AJ k a.ot)) (cas:=-1) (data:=[]) (Qa _);exact⟨_,W63_copy_out ⟨v,a,k⟩ (oc0 v) _ _ _ (λ_=>rfl) h135 h18 n r1 r2 h136 q _ h123 h137 _ _ h135b h138⟩
def rankD(k:Kn)(a:Ak):Nat:=if(AJ k a.pa).2.2=false then 3 else if(CI k (BN k a)).2.2=false then 2 else if(AJ k a.ot).2.2=false then 1 else 0
def data_sim{k':Kn}(hs:SimK k k'):EI v a k=EI v a k':=by
 have h1:AJ k a.pa=AJ k' a.pa:=hs.1 _ (key1_head _);have h2:AJ k a.ot=AJ k' a.ot:=hs.1 _ (key1_head _);have h3:DU k a=DU k' a:=by unfold DU;rw[h1]
 have h4:BN k a=BN k' a:=by unfold BN;rw[h3]
 have h5:CI k (BN k a)=CI k' (BN k' a):=by rw[←h4];exact hs.1 _ (key2_head _ _)
 have h6:textE k a=textE k' a:=by unfold textE;rw[h5]
 unfold EI;rw[h1,h2,h3,h5,h6,h4]
def data_ok(hk:KnOk k)(hr:AW a.pa=0)(hr2:a.op=18->AW a.ot=0)(hop:a.op=9∨a.op=18):((EI v a k).need=[]->Gr (EI v a k).rep)∧(EI v a k).ops.length<=1000∧
  ((EI v a k).need≠[]->((AJ k a.pa).2.2=false∧EI v a k=EA v (AZ 1 a.pa 0) false)∨((AJ k a.pa).2.2=true∧(CI k (BN k a)).2.2=false∧EI v a k=EA v (BN k a) false)∨((AJ k a.pa).2.2=true∧(CI k (BN k a)).2.2=true∧(AJ k a.ot).2.2=false∧EI v a k=EA v (AZ 1 a.ot 0) false)):=by
 have htl:=text_len (a:=a) hk;have fin:∀{o:Oc} {p:Prop},o.need=[]->Gr o.rep->o.ops.length<=1000->(o.need=[]->Gr o.rep)∧o.ops.length<=1000∧(o.need≠[]->p):=λh1 h2 h3=>⟨λ_=>h2,h3,λh=>absurd h1 h⟩
 unfold EI;cases hm:(AJ k a.pa).2.2 with
 |false=>
  rw[if_pos rfl];exact⟨λe=>absurd e (key1_ne hr),Qa _,λ_=> .inl ⟨rfl,rfl⟩⟩
 |true=>
  rw[if_neg (by decide)];cases hs:(DA (AJ k a.pa)).isSome with
  |false=>rw[if_pos rfl];exact fin rfl (Cd (by decide)) (Qa _)
  |true=>
   rw[if_neg (by decide)];have hrb:=read_bd (secG (DA (AJ k a.pa))) (numA a);by_cases he:(DU k a).2≠0
   ·rw[if_pos he];exact fin rfl (Cd ⟨by unfold DU at *;omega,hrb.2⟩) (Qa _)
   rw[if_neg he];have hrow:1<=(DU k a).1.1∧(DU k a).1.1<=30:=read_row (FW _) (Decidable.not_not.1 he);cases ht:(CI k (BN k a)).2.2 with
   |false=>
    rw[if_pos rfl];exact⟨λe=>absurd e (key2_ne hr hrow),Qa _,λ_=> .inr (.inl ⟨rfl,rfl,rfl⟩)⟩
   |true=>
    rw[if_neg (by decide)];by_cases h9:a.op=9
    ·rw[if_pos h9];exact fin rfl (gr_T (y:= .found _ _) (if_pos ⟨by omega,by omega,htl⟩) trivial) (Qa _)
    rw[if_neg h9];have h18:a.op=18:=by omega
    cases hm2:(AJ k a.ot).2.2 with
    |false=>
     rw[if_pos rfl];exact⟨λe=>absurd e (key1_ne (hr2 h18)),Qa _,λ_=> .inr (.inr ⟨rfl,rfl,rfl,rfl⟩)⟩
    |true=>
     rw[if_neg (by decide)];obtain⟨w1,w2,w3⟩:=writeE_ok (v:=v) (p:=a.ot) (FW (AJ k a.ot)) (cas:=-1) (data:=textE k a);exact fin w1 w2 w3
end
def dec_data{v:Vw}{a:Ak}(hv:ViewI v)(ha:AskI a)(h25:F25 [vwD v,akD a]=some (.int .i64 0))(hr:AW a.pa=0)(hr2:a.op=18->AW a.ot=0)(hop:a.op=9∨a.op=18):DecOk v a (EI v a) (λk=>rankD k a):=by
 refine⟨λk hk=>?_,λk=>?_,λk d hk hn=>?_,λk hk hn=>(data_ok hk hr hr2 hop).1 hn,λk hk hn=>by rcases(data_ok (v:=v) hk hr hr2 hop).2.2 hn with ⟨_,h⟩|⟨_,_,h⟩|⟨_,_,_,h⟩<;>exact⟨_,_,h⟩,λk k' hs=>data_sim hs,λk hk=>(data_ok hk hr hr2 hop).2.1,λk hk=>?_⟩
 ·obtain⟨ol,h⟩:=wc63 hv ha hk hop;rcases hop with e|e
  ·exact Bp .o9 a k e h25 _ _ h
  ·exact Bp .o18 a k e h25 _ _ h
 ·unfold rankD
  repeat' split
  all_goals decide
 ·rcases(data_ok (v:=v) hk hr hr2 hop).2.2 hn with ⟨h1,h2⟩|⟨h1,h2,h3⟩|⟨h1,h2,h3,h4⟩
  ·rw[h2];show rankD (BL k (AZ 1 a.pa 0) false d) a<rankD k a;have e:(AJ (BL k (AZ 1 a.pa 0) false d) a.pa).2.2=true:=(F4 k _ d _).1 rfl;unfold rankD;rw[e,h1];simp only[Bool.true_eq_false,if_false,if_true]
   repeat' split
   all_goals decide
  ·rw[h3];show rankD (BL k (BN k a) false d) a<rankD k a;have hne:AZ 1 a.pa 0≠BN k a:=λe=>by
    unfold AJ at h1;rw[e,h2]at h1;cases h1
   have e:AJ (BL k (BN k a) false d) a.pa=AJ k a.pa:=(F4 k _ d _).2 hne;have e3:DU (BL k (BN k a) false d) a=DU k a:=by unfold DU;rw[e]
   have e4:BN (BL k (BN k a) false d) a=BN k a:=by
    show AZ 2 a.pa (DU (BL k (BN k a) false d) a).1.1=AZ 2 a.pa (DU k a).1.1;rw[e3]
   have e5:(CI (BL k (BN k a) false d) (BN k a)).2.2=true:=(F4 k _ d _).1 rfl;unfold rankD;rw[e,h1,h2,e4,e5];simp only[Bool.true_eq_false,if_false,if_true];split<;>decide
  ·rw[h4];show rankD (BL k (AZ 1 a.ot 0) false d) a<rankD k a;have hne:AZ 1 a.pa 0≠AZ 1 a.ot 0:=λe=>by
    unfold AJ at h1 h3;rw[e,h3]at h1;cases h1
   have hne2:BN k a≠AZ 1 a.ot 0:=λe=>by
    unfold AJ at h3;rw[e,h3]at h2;cases h2
   have e:AJ (BL k (AZ 1 a.ot 0) false d) a.pa=AJ k a.pa:=(F4 k _ d _).2 hne;have e3:DU (BL k (AZ 1 a.ot 0) false d) a=DU k a:=by unfold DU;rw[e]
   have e4:BN (BL k (AZ 1 a.ot 0) false d) a=BN k a:=by
    show AZ 2 a.pa (DU (BL k (AZ 1 a.ot 0) false d) a).1.1=AZ 2 a.pa (DU k a).1.1;rw[e3]
   have e5:CI (BL k (AZ 1 a.ot 0) false d) (BN k a)=CI k (BN k a):=(F4 k _ d _).2 hne2;have e6:(AJ (BL k (AZ 1 a.ot 0) false d) a.ot).2.2=true:=(F4 k _ d _).1 rfl;unfold rankD;rw[e,h1,e4,e5,h2,e6,h3];decide
 ·by_cases hn:(EI v a k).need=[]
  ·rw[hn];exact Qa _
  have h1:=ha.ok.pa;have h2:=ha.ok.ot;have l1:=key_len 1 a.pa 0;have l2:=key_len 2 a.pa (DU k a).1.1;have l3:=key_len 1 a.ot 0;rcases(data_ok (v:=v) hk hr hr2 hop).2.2 hn with ⟨_,h⟩|⟨_,_,h⟩|⟨_,_,_,h⟩<;>rw[h]
  ·show(AZ 1 a.pa 0).length<=_;omega
  ·show(AZ 2 a.pa (DU k a).1.1).length<=_;omega
  ·show(AZ 1 a.ot 0).length<=_;omega
def dec_all{v:Vw}{a:Ak}(hv:ViewI v)(ha:AskI a):∃dec R,DecOk v a dec R∧(DI v a≠0->∀k,dec k=failO v (DI v a)):=by
 have h25:=F25_eq hv.ok ha.ok;have hb:=refA_bd v a;by_cases h:DI v a=0
 ·rw[h]at h25;have hc:=Ge h;obtain⟨h1,h2⟩:=op_of hc ha.ok.op0;by_cases h8:a.op<=8
  ·obtain⟨dec,R,X⟩:=dec_sys hv ha h25 h1 h8;exact⟨dec,R,X,λe=>absurd h e⟩
  have hr:=path_of hc (by omega) h2;by_cases h17:a.op=17
  ·exact⟨_,_,dec_list hv ha h25 h17,λe=>absurd h e⟩
  by_cases h9:a.op=9∨a.op=18
  ·exact⟨_,_,dec_data hv ha h25 hr (λe=>other_of hc e) h9,λe=>absurd h e⟩
  ·exact⟨_,_,dec_change hv ha h25 hr (by omega),λe=>absurd h e⟩
 ·exact⟨_,_,dec_fail h25 (by omega),λ_ _=>rfl⟩
def much_its{d:Dk}(h:muchB d=false):∀x∈d.its,x.1.length<=200∧x.2.1.length<=200:=λx hx=>by
 unfold muchB at h;simp only[Qn]at h;have:=List.any_eq_false.1 h.1.2 x hx;simp only[bigI,Qv,decide_eq_true_eq]at this;omega
def much_lss{d:Dk}(h:muchB d=false):∀x∈d.lss,x.2.2.length<=100∧∀s∈x.2.2,s.length<=200:=λx hx=>by
 unfold muchB at h;simp only[Qn]at h;have:=List.any_eq_false.1 h.2 x hx;simp only[bigL,Qv,decide_eq_true_eq,not_or]at this;refine⟨by omega,λs hs=>?_⟩;have h2:=this.2;rw[List.any_eq_true]at h2;rcases Nat.lt_or_ge 200 s.length with h3|h3
 ·exact absurd ⟨s,hs,by simpa using h3⟩ h2
 ·exact h3
structure KnJ (k:Kn) (j:Nat):Prop where
 es:k.es.length<=j
 ls:k.ls.length<=j
 et:∀x∈k.es,x.2.1.length<=400
 lt:∀x∈k.ls,x.2.2.length<=1000∧∀s∈x.2.2,s.length<=1000000
def KnJ.ok{k:Kn}{j:Nat}(h:KnJ k j)(hj:j<=20):KnOk k:=⟨by have:=h.es;omega,by have:=h.ls;omega,h.et,h.lt⟩
theorem KnJ.with {k : Kn} {j : Nat} (h : KnJ k j) (q t : Bs) (b : Bool) (ht : t.length ≤ 400) : KnJ { k with es := k.es ++ [(q, t, b)] } (j + 1) :=
 ⟨by simp only [Qh, Qg, Qm]; have := h.es; omega, Nat.le_succ_of_le h.ls, fun x hx => by
  rcases List.mem_append.1 hx with hx | hx
  ·exact h.et x hx
  ·rw [Qi.1 hx]; exact ht, h.lt⟩
end Go.Vd
namespace Go.Vd
open Go.Proofs
end Go.Vd
namespace Go.Vd
open Go.Proofs Go.RowKit
def n0:Vw:=keyV [107] false
def nT:List Mt:=[([97],2,false)]
def n1:Vw:={n0 with nlm:=false,ms:=nT}
def qA(op:Int)(tk pa:Bs)(n:Int):Ak:=⟨op,tk,pa,[],n,0,false,true,[],[],true,[],[]⟩
def rt:Bs:=[114,111,111,116]
def pab:Bs:=[97,47,98]
def nK0:Kn:=⟨[],[]⟩
def nK1:Kn:=⟨[([109,47,97,47,98],[],false)],[]⟩
def DB(w r:Bs)(nl:Bool)(t:Id)(xs:List D)(v:Vw):List D:=[.str w,.bool false,.str r,.slice nl t xs]++vwC v
def outN_cells(w r:Bs)(nl:Bool)(t:Id)(xs:List D)(v:Vw):D.cells (.agg (DB w r nl t xs v))=DB w r nl t xs v:=rfl
def outN_len(w r:Bs)(nl:Bool)(t:Id)(xs:List D)(v:Vw):(DB w r nl t xs v).length=9:=rfl
def rd_vwN{m:Mem}{i:Id}(v:Vw):Ah (m.put i 0 (vwC v)) i 0 5=some (vwC v):=AQ rfl
def Ei{m:Mem}{i:Id}{cs:List D}{k:Nat}{d:D}(h:cs[k]?=some d):(m.put i 0 cs) i k=some d:=by
 have hk:=(Qt.1 h).1;have:=Mem.put_same (m:=m) (i:=i) (o:=0) hk;rw[Nat.zero_add]at this;rw[this,h]
def nv_ok(ms:List Mt)(nl:Bool)(h:ms.length<=1000∧∀m∈ms,m.1.length<=1000):VwOk {n0 with nlm:=nl,ms:=ms}:=⟨h.1,h.2,(show n0.ks.length<=1000 by decide),λk hk=>by
 have e:k=firstTk:=by simpa[n0,keyV]using hk
 subst e;exact⟨⟨by decide,by decide⟩,⟨by decide,λr hr=>by rw[Qi.1 hr];decide,λr hr=>by rw[Qi.1 hr];decide⟩⟩⟩
def n0_ok:VwOk n0:=nv_ok [] true ⟨by decide,λm hm=>by cases hm⟩
def n1_ok:VwOk n1:=nv_ok nT false ⟨by decide,λm hm=>by rw[Qi.1 hm];decide⟩
def qA_ok{op:Int}{tk pa:Bs}{n:Int}(h0:0<=op)(h1:op<256)(h2:tk.length<=1000)(h3:pa.length<=1000):AkOk (qA op tk pa n):=⟨h0,h1,h2,h3,Qa _,Qa _,Qa _,Qa _,λr hr=>(by cases hr),Qa _⟩
def nk_ok(k:Kn)(h:k=nK0∨k=nK1):KnOk k:=by
 rcases h with rfl|rfl
 ·exact⟨by decide,by decide,λx hx=>(by cases hx),λx hx=>(by cases hx)⟩
 ·exact⟨by decide,by decide,λx hx=>by rw[Qi.1 hx];decide,λx hx=>(by cases hx)⟩
def n19a:R19 Ea Ep [vwD n0,akD (qA 1 [] [] 0),.agg (kwC nK0)]=some (.agg (DB [] [111,107,32,111,112,101,110] true [] [] n0)):=by
 have h25:=F25_eq n0_ok (qA_ok (op:=1) (tk:=[]) (pa:=[]) (n:=0) (by decide) (by decide) (by decide) (by decide));rw[show DI n0 (qA 1 [] [] 0)=0 by kernel_rfl]at h25;have h:=Bp (G1:=Ea) (G2:=Ep) (v:=n0) .o1 (qA 1 [] [] 0) nK0 rfl h25 _ _ (Gi ⟨n0,qA 1 [] [] 0,nK0⟩ (oc0 n0) (.state n0.se) (λ_=>rfl) trivial trivial);rw[show ocU {oc0 n0 with rep:=ryT (.state n0.se)}=DB [] [111,107,32,111,112,101,110] true [] [] n0 by kernel_rfl]at h;exact h
def n19b:R19 Ea Ep [vwD n0,akD (qA 9 rt pab 0),.agg (kwC nK0)]=some (.agg (DB [] [101,114,114,111,114,32,49,52] true [] [] n0)):=by
 have h25:=F25_eq n0_ok (qA_ok (op:=9) (tk:=rt) (pa:=pab) (n:=0) (by decide) (by decide) (by decide) (by decide));rw[show DI n0 (qA 9 rt pab 0)=14 by kernel_rfl]at h25;have h:=R19_fail Ea Ep n0 (qA 9 rt pab 0) nK0 14 (by decide) h25 _ _ (w54 n0 _ nK0 (by decide));rw[show ocU (failO n0 14)=DB [] [101,114,114,111,114,32,49,52] true [] [] n0 by kernel_rfl]at h;exact h
def n19c:R19 Ea Ep [vwD n0,akD (qA 5 rt [97] 2),.agg (kwC nK0)]=some (.agg (DB [] [111,107] false [] [.agg [.int .u8 1,.str [115,47,109,111,117,110,116,115],.str (Fi nT)]] n1)):=by
 have h25:=F25_eq n0_ok (qA_ok (op:=5) (tk:=rt) (pa:=[97]) (n:=2) (by decide) (by decide) (by decide) (by decide));rw[show DI n0 (qA 5 rt [97] 2)=0 by kernel_rfl]at h25;have h45:=F45_eq (nl:=true) (t:=[]) (l:=[]) (m:=([97],2,false)) (by decide) (λ_=>rfl) (by decide);rw[show Fp [] ([97],2,false)=(some nT,0)by kernel_rfl]at h45;have h:=Bp (G1:=Ea) (G2:=Ep) (v:=n0) .o5 (qA 5 rt [97] 2) nK0 rfl h25 _ _ (W58_ok ⟨n0,qA 5 rt [97] 2,nK0⟩ (oc0 n0) false nT h45 (oc00 n0) ⟨by decide,λm hm=>by rw[Qi.1 hm];decide⟩);rw[show ocU (mntO (oc0 n0) false nT)=DB [] [111,107] false [] [.agg [.int .u8 1,.str [115,47,109,111,117,110,116,115],.str (Fi nT)]] n1 by kernel_rfl]at h;exact h
def n19d:R19 Ea Ep [vwD n1,akD (qA 9 rt pab 0),.agg (kwC nK0)]=some (.agg (DB [109,47,97,47,98] [] true [] [] n1)):=by
 have h25:=F25_eq n1_ok (qA_ok (op:=9) (tk:=rt) (pa:=pab) (n:=0) (by decide) (by decide) (by decide) (by decide));rw[show DI n1 (qA 9 rt pab 0)=0 by kernel_rfl]at h25;have h:=Bp (G1:=Ea) (G2:=Ep) (v:=n1) .o9 (qA 9 rt pab 0) nK0 rfl h25 _ _ (W63_need ⟨n1,qA 9 rt pab 0,nK0⟩ (oc0 n1) _ _ _ (λ_=>rfl) (w135_need (nk_ok _ (.inl rfl)) (p:=pab) (by decide) (by kernel_rfl)));rw[show ocU (EA n1 (AZ 1 pab 0) false)=DB [109,47,97,47,98] [] true [] [] n1 by kernel_rfl]at h;exact h
def n19e:R19 Ea Ep [vwD n1,akD (qA 9 rt pab 0),.agg (kwC nK1)]=some (.agg (DB [] [101,114,114,111,114,32,54] true [] [] n1)):=by
 have h25:=F25_eq n1_ok (qA_ok (op:=9) (tk:=rt) (pa:=pab) (n:=0) (by decide) (by decide) (by decide) (by decide));rw[show DI n1 (qA 9 rt pab 0)=0 by kernel_rfl]at h25;have h135:=FQ (v:=n1) (a:=qA 9 rt pab 0) (nk_ok _ (.inr rfl)) (p:=pab) (by decide) (by kernel_rfl);rw[show(DA (AJ nK1 pab)).isSome=false by kernel_rfl]at h135;have h:=Bp (G1:=Ea) (G2:=Ep) (v:=n1) .o9 (qA 9 rt pab 0) nK1 rfl h25 _ _ (W63_none ⟨n1,qA 9 rt pab 0,nK1⟩ (oc0 n1) _ _ _ (λ_=>rfl) h135 (w54 n1 _ nK1 (by decide)));rw[show ocU (failO n1 6)=DB [] [101,114,114,111,114,32,54] true [] [] n1 by kernel_rfl]at h;exact h
def ok10n:(Ac trueF).ok Qd 10:=by
 obtain⟨S,hS,hl⟩:=A7 (Ab ok23 (Ab (ko19 ok131 ok134) (Ab ko12 (Ab ok27 (Ab ok29 (Ab ok25 Ad))))));have s23:=hl 23 _ rfl;have s19:=hl 19 _ rfl;have s12:=hl 12 _ rfl;have s27:=hl 27 _ rfl;have s29:=hl 29 _ rfl;have s25:=hl 25 _ rfl;clear hl;refine Ay hS fn10 (λds r h=>?_) (λds r h=>?_)
 ·unfold trueF at h;split at h
  ·simp
  ·cases h
 ·unfold trueF at h;split at h
  ·simp only[Qf]at h;subst h;have h23:F23 [.str [107]]=some (.agg (vwC n0)):=rfl;have ha:R19 Ea Ep [.agg (vwC n0),.agg [.int .u8 1,.str [],.str [],.str [],.int .i64 0,.int .i64 0,.bool false,.slice true [] [],.str [],.slice true [] [],.str []],.agg [.slice true [] [],.slice true [] [],.slice true [] [],.slice true [] [],.slice true [] []]]=some (.agg (DB [] [111,107,32,111,112,101,110] true [] [] n0)):=n19a;have hb:R19 Ea Ep [.agg (vwC n0),.agg [.int .u8 9,.str [114,111,111,116],.str [97,47,98],.str [],.int .i64 0,.int .i64 0,.bool false,.slice true [] [],.str [],.slice true [] [],.str []],.agg [.slice true [] [],.slice true [] [],.slice true [] [],.slice true [] [],.slice true [] []]]=some (.agg (DB [] [101,114,114,111,114,32,49,52] true [] [] n0)):=n19b;have hc:R19 Ea Ep [.agg (vwC n0),.agg [.int .u8 5,.str [114,111,111,116],.str [97],.str [],.int .i64 2,.int .i64 0,.bool false,.slice true [] [],.str [],.slice true [] [],.str []],.agg [.slice true [] [],.slice true [] [],.slice true [] [],.slice true [] [],.slice true [] []]]=some (.agg (DB [] [111,107] false [] [.agg [.int .u8 1,.str [115,47,109,111,117,110,116,115],.str (Fi nT)]] n1)):=n19c;have hd:R19 Ea Ep [.agg (vwC n1),.agg [.int .u8 9,.str [114,111,111,116],.str [97,47,98],.str [],.int .i64 0,.int .i64 0,.bool false,.slice true [] [],.str [],.slice true [] [],.str []],.agg [.slice true [] [],.slice true [] [],.slice true [] [],.slice true [] [],.slice true [] []]]=some (.agg (DB [109,47,97,47,98] [] true [] [] n1)):=n19d;have he:R19 Ea Ep [.agg (vwC n1),.agg [.int .u8 9,.str [114,111,111,116],.str [97,47,98],.str [],.int .i64 0,.int .i64 0,.bool false,.slice true [] [],.str [],.slice true [] [],.str []],.agg [.slice false [] [.str [109,47,97,47,98]],.slice false [] [.str []],.slice false [] [.bool false],.slice true [] [],.slice true [] []]]=some (.agg (DB [] [101,114,114,111,114,32,54] true [] [] n1)):=n19e;have h12:R12 [.agg [.slice true [] [],.slice true [] [],.slice true [] [],.slice true [] [],.slice true [] []],.str [109,47,97,47,98],.str [],.bool false]=some (.agg [.slice false [] [.str [109,47,97,47,98]],.slice false [] [.str []],.slice false [] [.bool false],.slice true [] [],.slice true [] []]):=R12_eq nK0 [109,47,97,47,98] [] false (by decide);have h27:F27 [.int .u8 10]=some (.int .u8 2):=by kernel_rfl
   have h29:F29 [.int .u8 18]=some (.bool true):=by kernel_rfl
   have h29b:F29 [.int .u8 9]=some (.bool false):=by kernel_rfl
   have h25:F25 [.agg (vwC n0),.agg [.int .u8 0,.str [],.str [],.str [],.int .i64 0,.int .i64 0,.bool false,.slice true [] [],.str [],.slice true [] [],.str []]]=some (.int .i64 22):=by
    have e:=F25_eq n0_ok (qA_ok (op:=0) (tk:=[]) (pa:=[]) (n:=0) (by decide) (by decide) (by decide) (by decide));rw[show DI n0 (qA 0 [] [] 0)=22 by kernel_rfl]at e;exact e
   have q0:∀(m:Mem)(i:Id)(w r:Bs)(nl:Bool)(t:Id)(xs:List D)(v:Vw),(m.put i 0 (DB w r nl t xs v)) i 0=some (.str w):=λm i w r nl t xs v=>Ei rfl
   have q1:∀(m:Mem)(i:Id)(w r:Bs)(nl:Bool)(t:Id)(xs:List D)(v:Vw),(m.put i 0 (DB w r nl t xs v)) i 1=some (.bool false):=λm i w r nl t xs v=>Ei rfl
   have q2:∀(m:Mem)(i:Id)(w r:Bs)(nl:Bool)(t:Id)(xs:List D)(v:Vw),(m.put i 0 (DB w r nl t xs v)) i 2=some (.str r):=λm i w r nl t xs v=>Ei rfl
   have q3:∀(m:Mem)(i:Id)(w r:Bs)(nl:Bool)(t:Id)(xs:List D)(v:Vw),(m.put i 0 (DB w r nl t xs v)) i 3=some (.slice nl t xs):=λm i w r nl t xs v=>Ei rfl
   have q4:∀(m:Mem)(i:Id)(w r:Bs)(nl:Bool)(t:Id)(xs:List D)(v:Vw),Ah (m.put i 0 (DB w r nl t xs v)) i 4 5=some (vwC v):=λm i w r nl t xs v=>by
    simp only[Ah];rw[Ei (k:=4) (cs:=DB w r nl t xs v) rfl,Ei (k:=4+1) (cs:=DB w r nl t xs v) rfl,Ei (k:=4+1+1) (cs:=DB w r nl t xs v) rfl,Ei (k:=4+1+1+1) (cs:=DB w r nl t xs v) rfl,Ei (k:=4+1+1+1+1) (cs:=DB w r nl t xs v) rfl];rfl
   unfold dc10;simp only[↓go1,gB2,go4,simprocAttr,ha,hb,hc,hd,he,Aa s23,h23,Aa s12,h12,q4,Aa s19,BK,C5,Df,CT,A_,BH,outN_cells,outN_len,rd_vwN,AI,ne_eq,and_self,List.take_succ_cons,List.take_zero,Qj,List.drop_zero,Qx,Qz,AQ];refine Ao.intro (Aj ?_) ?_
   ·simp only[A5,List.all_cons,List.all_nil,List.getD,Qc,Qp,Qo,AM,List.map_cons,List.map_nil,Qg,Qm,List.flatMap_cons,List.flatMap_nil,rds,↓go1,go2,reduceIte,Nat.reduceEqDiff];simp[Ai,Ac,s19,s12]
   simp only[↓go1,gB2,go4,simprocAttr,Aa s27,h27,Aa s29,h29,Aa s25,h25,h29b,q0,q1,q2,q3,BK,Df,CT,rd_vwN,AI,Mem.put_other,Int.toNat_zero,Int.cast_ofNat_Int,Int.le_refl,ne_eq,Qc,and_self,List.drop_zero,Qx,List.head?_cons,Qz]
   all_goals first|rfl|exact⟨rfl,rfl⟩
  ·cases h
def fold_mt:∀(ms:List Mt)(s:Bool×List Mt),(s.1=true->s.2=[])->((ms.foldl BP s).1=true->(ms.foldl BP s).2=[])∧(ms.foldl BP s).2.length<=s.2.length+ms.length
 |[],s,h=>⟨h,Nat.le_refl _⟩
 |m::ms,s,h=>by
  rw[List.foldl_cons];have step:((BP s m).1=true->(BP s m).2=[])∧(BP s m).2.length<=s.2.length+1:=by
   unfold BP;rcases addE_bd2 s.2 m with ⟨l',e1,_,e3⟩|⟨e1,_⟩
   ·rw[e1];exact⟨λe=>(by cases e),Nat.le_of_eq e3⟩
   ·rw[e1];exact⟨h,Nat.le_succ _⟩
  obtain⟨a,b⟩:=fold_mt ms _ step.1;exact⟨a,by rw[Qg];omega⟩
def teV_bd(n:Int):1<=teV n∧teV n<=6:=by
 unfold teV;have h0:0<=IntKind.u64.wrap n:=by
  show 0<=n % (2 ^ 64:Int);exact Int.emod_nonneg _ (by decide)
 have h1:0<=(IntKind.u64.wrap n).tmod 6∧(IntKind.u64.wrap n).tmod 6<=5:=⟨Int.tmod_nonneg _ h0,by have:=Int.tmod_lt_of_pos (IntKind.u64.wrap n) (show(0:Int)<6 by decide);omega⟩;generalize (IntKind.u64.wrap n).tmod 6=q at h1;have e1:IntKind.i64.wrap q=q:=w64 (by omega) (by omega);rw[e1,w64 (by omega) (by omega)];omega
def see_view{v:Vw}(h:SeenOk v):ViewI (seeV v):=by
 have h1:=inv_fold v.ks (false,[firstTk]) inv_first rfl;have h2:=view_mounts v.ms;have h3:=fold_mt v.ms (true,[]) (λ_=>rfl);have hk:=h.kl;have hm:=h.ml;refine⟨see_ok h,h1.1,?_,h3.1,teV_bd v.te,?_,?_⟩
 ·show SortM (v.ms.foldl BP (true,[])).2;rw[h2.1];exact h2.2
 ·have:=h1.2.2;show(v.ks.foldl Bi (false,[firstTk])).2.length<=60;simp only[Qg,Qm]at this;omega
 ·have:=h3.2;show(v.ms.foldl BP (true,[])).2.length<=900;simp only[Qm]at this;omega
def own_ask{a:Ak}(h:AkOk a)(hc:DM a.rs):AskI (ownA a):=⟨⟨h.op0,h.op,h.tk,h.pa,h.ot,h.ns,h.da,h.rl,h.rs,h.key⟩,hc,λe=>List.isEmpty_iff.1 e⟩
def much_dk{d:Dk}(h:muchB d=false)(hn:∀x∈d.lss,x.2.1=true->x.2.2=[]):DkOk d:=by
 have h2:=much_lss h;unfold muchB at h;simp only[Qn,decide_eq_false_iff_not]at h;exact⟨by omega,by omega,λx hx=>⟨by have:=(h2 x hx).1;omega,hn x hx⟩⟩
def rE4{m:Mem}{i j:Nat}{x:List D}{n:Nat}(h:j≠i):Ah (m.put [i] 0 x) [j] 0 n=Ah m [j] 0 n:=AI (by simp[h])
def kwC_u1(k:Kn):(kwC k).map D.un1=kwC k:=rfl
def kwC_c1(k:Kn):(kwC k).all D.calm1=true:=rfl
def ocU_len(o:Oc):(ocU o).length=9:=rfl
def ocU_0(o:Oc):(ocU o)[0]?=some (.str o.need):=rfl
def ocU_2(o:Oc):(ocU o)[2]?=some (.str o.rep):=rfl
def ownK_ok{d:Dk}(h:muchB d=false):KnOk (ownK d):=by
 have h1:=much_its h;have h2:=much_lss h;unfold muchB at h;simp only[Qn,decide_eq_false_iff_not]at h;exact⟨by show d.its.length<=20;omega,by show d.lss.length<=20;omega,λx hx=>Qu (h1 x hx).2 (by decide),λx hx=>⟨Qu (h2 x hx).1 (by decide),λs hs=>Qu ((h2 x hx).2 s hs) (by decide)⟩⟩
structure MayA (v:Vw) (a:Ak) (at':Bs):Prop where
 fnd:AR v.ks a.tk=true
 nm:(A2 v.ks (bsE v.ks a.tk)).1=a.tk
 cap:FI (BA (A2 v.ks (bsE v.ks a.tk)).2.2.2 at').toNat (Dw a.op).toNat=true
 oth:a.op=18->FI (BA (A2 v.ks (bsE v.ks a.tk)).2.2.2 a.ot).toNat 2=true
 nz:Dw a.op≠0
def found_nm{l:List Tk}{n:Bs}(h:AR l n=true):(A2 l (bsE l n)).1=n:=by
 unfold AR at h;rw[Qe]at h;rw[cmpS_zero]at h;exact of_decide_eq_true h.2
def may_of{v:Vw}{a:Ak}(h:DI v a=0)(h0:0<=a.op)(h1:a.op≠1)(h2:a.op≠2):v.se=false∧MayA v a (atA a):=by
 have hop:=op_of (Ge h) h0;unfold DI at h;rw[if_neg (by rw[Ge h];simp),if_neg h1,if_neg h2]at h;split at h
 ·cases h
 rename_i hs;split at h
 ·cases h
 rename_i hp;have hp':permA v a=true:=by simpa using hp
 unfold permA EL at hp';simp only[Qe,Qv,decide_eq_true_eq]at hp';refine⟨by simpa using hs,hp'.1.1,found_nm hp'.1.1,hp'.1.2,λe=>?_,?_⟩
 ·rcases hp'.2 with h3|h3
  ·exact absurd e h3
  ·exact h3.2
 ·unfold Dw
  repeat' split
  all_goals omega
def and_two:∀a:Nat,a<256->FI a 2=true->bits .and .u8 (a:Int) 2≠0:=by decide
def psd_dec{v:Vw}{a:Ak}{dec:Kn->Oc}{R:Kn->Nat}(X:DecOk v a dec R)(hf:DI v a≠0->∀k,dec k=failO v (DI v a)){k:Kn}(hk:KnOk k):
  ∃y e,F34 [.str (dec k).rep]=some (.tup [.agg (ryC y),.int .i64 e])∧((dec k).need=[]->e=0)∧(DI v a≠0->(dec k).need=[]∧(ryC y)[0]?=some (.int .u8 0)):=by
 by_cases hr:DI v a=0
 ·by_cases hn:(dec k).need=[]
  ·obtain⟨y,h1,h2,h3⟩:=X.rep k hk hn;obtain⟨p,q⟩:=psd_T h1 h2;rw[h3];exact⟨_,_,F34_eq q p,λ_=>rfl,λe=>absurd hr e⟩
  ·obtain⟨q,li,h1⟩:=X.nd k hk hn;rw[h1];exact⟨_,_,F34_eq (Qa _) .none,λe=>absurd (by rw[h1];exact e) hn,λe=>absurd hr e⟩
 ·rw[hf hr k];obtain⟨b1,b2⟩:=refA_bd v a;obtain⟨p,q⟩:=psd_T (y:= .fail (DI v a)) (if_pos ⟨by omega,by omega⟩) trivial;exact⟨_,_,F34_eq q p,λ_=>rfl,λ_=>⟨rfl,rfl⟩⟩
def S7:Summs:=AC [(15,Ac F15),(16,Ac F16),(9,Ac R9),(10,Ac trueF),(17,Ac F17),(18,Ac F18),(11,Ac R11),(19,Ac (R19 Ea Ep)),(34,Ac F34),(35,Ac F35),(36,Ac F36),(27,Ac F27)]
def R7:List D->Option D:=RF S7 dc7 [.t 6] 145
def ko7:(Ac R7).ok Qd 7:=AH fn7 (Ab ok15 (Ab ok16 (Ab ko9 (Ab ok10n (Ab ok17 (Ab ok18 (Ab ko11 (Ab (ko19 ok131 ok134) (Ab ok34 (Ab ok35 (Ab ok36 (Ab ok27 Ad))))))))))))
def R7_eq(v:Vw)(a:Ak)(d:Dk)(hr:∀k∈v.ks,rawT k)(h0:0<=a.op)(h1:a.op<256)(hc:DM a.rs)(hd:∀x∈d.lss,x.2.1=true->x.2.2=[]):R7 [vwD v,akD a,.agg (dkC d)]=some (.bool true):=by
 refine AE (Nat.le_of_ble_eq_true rfl) ?_;have s16:S7 16=some (Ac F16):=rfl;have s9:S7 9=some (Ac R9):=rfl;have s10:S7 10=some (Ac trueF):=rfl;have s17:S7 17=some (Ac F17):=rfl;have s18:S7 18=some (Ac F18):=rfl;have s11:S7 11=some (Ac R11):=rfl;have s19:S7 19=some (Ac (R19 Ea Ep)):=rfl;have s34:S7 34=some (Ac F34):=rfl;have s35:S7 35=some (Ac F35):=rfl;have s36:S7 36=some (Ac F36):=rfl;have s27:S7 27=some (Ac F27):=rfl;unfold dc7;have h15:F15 [.agg (vwC v)]=some (oneI (overS v)):=F15_eq;have h16:F16 [.agg (akC a)]=some (oneI (overA a)):=F16_eq;have h9:=R9_eq d;have h10:trueF []=some (.bool true):=rfl;have q0:Ah (((Mem.put (λ_ _=>none) [0] 0 (vwC v)).put [1] 0 (akC a)).put [2] 0 (dkC d)) [0] 0 5=some (vwC v):=by rw[AI (by decide),AI (by decide)];exact AQ rfl
 have q1:Ah (((Mem.put (λ_ _=>none) [0] 0 (vwC v)).put [1] 0 (akC a)).put [2] 0 (dkC d)) [1] 0 11=some (akC a):=by rw[AI (by decide)];exact AQ rfl
 have q2:Ah (((Mem.put (λ_ _=>none) [0] 0 (vwC v)).put [1] 0 (akC a)).put [2] 0 (dkC d)) [2] 0 2=some (dkC d):=AQ rfl;have hdc:(D.agg (dkC d)).cells=dkC d:=rfl;have hdu:List.map D.un1 (dkC d)=dkC d:=rfl;have hda:(dkC d).all D.calm1=true:=rfl;have z5:∀{m:Mem} {i:Id} {x0 x1 x2 x3 x4:D},Ah (m.put i 0 [x0,x1,x2,x3,x4]) i 0 5=some [x0,x1,x2,x3,x4]:=AQ rfl;have z9:∀{m:Mem} {i:Id} {x0 x1 x2 x3 x4 x5 x6 x7 x8:D},Ah (m.put i 0 [x0,x1,x2,x3,x4,x5,x6,x7,x8]) i 0 9=some [x0,x1,x2,x3,x4,x5,x6,x7,x8]:=AQ rfl;have z10:∀{m:Mem} {i:Id} {x0 x1 x2 x3 x4 x5 x6 x7 x8 x9:D},Ah (m.put i 0 [x0,x1,x2,x3,x4,x5,x6,x7,x8,x9]) i 0 10=some [x0,x1,x2,x3,x4,x5,x6,x7,x8,x9]:=AQ rfl;have z3:∀{m:Mem} {i:Id} {x0 x1 x2:D},Ah (m.put i 0 [x0,x1,x2]) i 0 3=some [x0,x1,x2]:=AQ rfl;have zv:∀{m:Mem} {i:Id} {v:Vw},Ah (m.put i 0 (vwC v)) i 0 5=some (vwC v):=AQ rfl;have zo:∀{m:Mem} {i:Id} {o:Oc},Ah (m.put i 0 (ocU o)) i 0 9=some (ocU o):=AQ rfl;have zr:∀{m:Mem} {i:Id} {y:Ry},Ah (m.put i 0 (ryC y)) i 0 10=some (ryC y):=AQ (ryC_len _);unfold vwD akD;cases hs:overS v with
 |true=>
  rw[hs]at h15;simp only[↓go1,gB3,simprocAttr,DJ,Al S7 15,h15,Aa s10,h10,hdc,q0,Df,CT,A_,AK]
  all_goals first|rfl|exact⟨rfl,rfl⟩
 |false=>
  rw[hs]at h15;cases ho:overA a with
  |true=>
   rw[ho]at h16;simp only[↓go1,gB3,simprocAttr,DJ,oneI_f,Al S7 15,h15,Aa s16,h16,Aa s10,h10,hdc,q0,q1,Df,CT,A_,Cv,Cw,AK]
   all_goals first|rfl|exact⟨rfl,rfl⟩
  |false=>
   rw[ho]at h16;cases hm:muchB d with
   |true=>
    rw[hm]at h9;simp only[↓go1,gB3,simprocAttr,oneI_f,Al S7 15,h15,Aa s16,h16,Aa s9,h9,Aa s10,h10,hdc,hdu,hda,q0,q1,q2,Df,CT,A_,Cv,Cw,AK]
    all_goals first|rfl|exact⟨rfl,rfl⟩
   |false=>
    rw[hm]at h9;have sv:=seen_of hs hr;have sa:=ask_of ho h0 h1 hc;have h17:F17 [.agg (vwC v)]=some (.tup [.agg (vwC (seeV v)),.agg (vwC (docV v))]):=F17_eq sv;have h18:F18 [.agg (akC a)]=some (.agg (akC (ownA a))):=F18_eq sa.rl;have h11:=R11_eq d (much_dk hm hd);obtain⟨dec,R,X,hfail⟩:=dec_all (see_view sv) (own_ask sa hc);have hko:=ownK_ok hm;have h19:=X.run _ hko;obtain⟨y,e,h34,he,hrf⟩:=psd_dec X hfail hko;unfold vwD akD at h19;simp (disch:=omega)only[↓go1,gB3,simprocAttr,oneI_f,Al S7 15,h15,Aa s16,h16,Aa s9,h9,Aa s17,h17,Aa s18,h18,hdc,hdu,hda,q0,q1,q2,Df,CT,A_,Cv,Cw,AK,rE4,z5,z9,zv,BH,and_self,Qj,Nat.zero_add,Aa s11,h11,Aa s19,h19,kwC_u1,kwC_c1,ocU_len]
    (refine Ao.intro (Aj ?_) ?_;first|rfl|simp[A5,AM,rds,Ai,Ac])
    generalize hO:dec (ownK d)=o at *;obtain⟨kd,hk0⟩:∃kd,(ryC y)[0]?=some (.int .u8 kd):=by cases y<;>exact⟨_,rfl⟩
    have ak10:(akC a)[10]?=some (.str a.key):=rfl;have hid:∀(x y:Nat),([x]=[y])=(x=y):=λx y=>by simp
    rcases(by by_cases hn:o.need=[]<;>by_cases hk:kd=0<;>simp[hn,hk]:(o.need=[]∧kd=0)∨(o.need=[]∧¬kd=0)∨¬o.need=[])with ⟨hn,hk⟩|hBC
    ·have he0:=he hn;have hnT:=eq_true hn;have hkT:=eq_true hk;simp (disch:=omega)only[↓go1,gB2,go4,simprocAttr,Af,ocU_2,ocU_0,Aa s34,h34,ryC_len,z10,hk0,ocU_len,and_self,Qj,hid,he0,hnT,hkT,Aa s10,h10]
     all_goals first|rfl|exact⟨rfl,rfl⟩
    ·have hz:DI (seeV v) (ownA a)=0:=by
      rcases Classical.em (DI (seeV v) (ownA a)=0)with h|h
      ·exact h
      ·obtain⟨r1,r2⟩:=hrf h;rw[hk0]at r2;rcases hBC with ⟨_,r3⟩|r3
       ·simp only[Qf,D.int.injEq,true_and]at r2;exact absurd r2 r3
       ·exact absurd r1 r3
     clear hrf hfail X h19;have hvo:=(see_view sv).ok;generalize seeV v=V at *;by_cases h1:a.op=1
     ·have h1T:=eq_true h1;rcases hBC with ⟨hn,hk⟩|hn
      case' inl=>have he0:=he hn;have hnT:=eq_true hn;have hkT:=eq_false hk
      case' inr=>have he0:=trivial;have hnT:=eq_false hn;have hkT:=trivial
      all_goals
       simp (disch:=omega)only[↓go1,gB2,go4,simprocAttr,Af,ocU_2,ocU_0,Aa s34,h34,ryC_len,z10,hk0,ocU_len,Bc,BH,and_self,Qj,hid,false_and,EM,he0,hnT,hkT,h1T,Aa s10,h10]
       all_goals first|rfl|exact⟨rfl,rfl⟩
     have h1F:=eq_false h1;by_cases h2:a.op=2
     ·have h2T:=eq_true h2;have hun:V.se=true∧a.key=V.key:=by
       have hc0:=Ge hz;unfold DI at hz;rw[if_neg (by rw[hc0];simp),if_neg (show ¬(ownA a).op=1 from h1),if_pos (show(ownA a).op=2 from h2)]at hz;split at hz
       ·cases hz
       ·rename_i q1;split at hz
        ·cases hz
        ·rename_i q2;exact⟨by simpa using q1,Decidable.not_not.1 q2⟩
      obtain⟨u1,u2⟩:=hun;have u2T:=eq_true u2;rcases hBC with ⟨hn,hk⟩|hn
      case' inl=>have he0:=he hn;have hnT:=eq_true hn;have hkT:=eq_false hk
      case' inr=>have he0:=trivial;have hnT:=eq_false hn;have hkT:=trivial
      all_goals
       simp (disch:=omega)only[↓go1,gB2,go4,simprocAttr,Af,ocU_2,ocU_0,Aa s34,h34,ryC_len,z10,hk0,ocU_len,Bc,BH,and_self,Qj,hid,false_and,EM,ak10,ES,vw_g2,he0,hnT,hkT,h1F,h2T,u1,u2T,Aa s10,h10]
       all_goals first|rfl|exact⟨rfl,rfl⟩
     have h2F:=eq_false h2;obtain⟨mse,may⟩:=may_of (v:=V) (a:=ownA a) hz h0 h1 h2;have hkl:=hvo.kl;have h35:=F35_eq (nl:=V.nlt) (l:=V.ks) (s:=a.tk) (by omega) (λk hk=>(hvo.kp k hk).1);have h36:=λp=>F36_eq (nl:=V.nlt) (l:=V.ks) (s:=a.tk) (p:=p) (by omega) (λk hk=>(hvo.kp k hk).2.1)
     have hf:AR V.ks a.tk=true:=may.fnd;have hb:bsE V.ks a.tk<V.ks.length:=by
      have:=hf;unfold AR at this;rw[Qe,decide_eq_true_iff]at this;exact this.1
     have hcap:=(hvo.kp _ (tkAt_mem hb)).2.2.2;have m1:(A2 V.ks (bsE V.ks a.tk)).1=a.tk:=may.nm;have m2:FI (BA (A2 V.ks (bsE V.ks a.tk)).2.2.2 (atA a)).toNat (Dw a.op).toNat=true:=may.cap;have m3:a.op=18->FI (BA (A2 V.ks (bsE V.ks a.tk)).2.2.2 a.ot).toNat 2=true:=may.oth;have m4:Dw a.op≠0:=may.nz;rw[hf]at h35 h36;simp only[if_true]at h35 h36;generalize A2 V.ks (bsE V.ks a.tk)=k at h35 h36 hcap m1 m2 m3;obtain⟨n1,n2,nl3,rs⟩:=k;simp only at h35 h36 hcap m1 m2 m3;have bd:=λp=>caps_bd hcap p
     have m2':bits .andNot .u8 (Dw a.op) (BA rs (atA a))=0:=by
      have:=andNot_nat (a:=(BA rs (atA a)).toNat) (c:=(Dw a.op).toNat) (by have:=bd (atA a);omega) (by have:=capsF_bd a.op;omega);rw[Qq (bd _).1,Qq (capsF_bd _).1]at this;rw[this];unfold FI at m2;rw[Nat.beq_eq]at m2;rw[m2];rfl
     have m3':a.op=18->(bits .and .u8 (BA rs a.ot) 2=0)=False:=λe18=>eq_false (by
      have:=and_two (BA rs a.ot).toNat (by have:=bd a.ot;omega) (m3 e18)
      rwa [Qq (bd _).1]at this)
     have m4T:=eq_false m4;have m1T:=eq_true m1;have h27:F27 [.int .u8 a.op]=some (.int .u8 (Dw a.op)):=rfl;have vl4:(vwC V)[4]?=some (.slice V.nlt [] (Aw V.ks)):=rfl;unfold tkD at h35;simp only at h35;rcases(by by_cases h8:a.op<=8<;>by_cases h18:a.op=18<;>simp[h8,h18]:(a.op<=8)∨(¬a.op<=8∧a.op=18)∨(¬a.op<=8∧¬a.op=18))with h8|⟨h8,h18⟩|⟨h8,h18⟩
     case' inl=>have hat:atA a=[115,121,115]:=if_pos h8;have h8T:=eq_true h8;have h18T:(a.op=18)=False:=eq_false (by omega);have m3T:=trivial
     case' inr.inl=>have hat:atA a=a.pa:=if_neg h8;have h8T:=eq_false h8;have h18T:=eq_true h18;have m3T:=m3' h18
     case' inr.inr=>have hat:atA a=a.pa:=if_neg h8;have h8T:=eq_false h8;have h18T:=eq_false h18;have m3T:=trivial
     all_goals
      rw[hat]at m2';rcases hBC with ⟨hn,hk⟩|hn
      case' inl=>have he0:=he hn;have hnT:=eq_true hn;have hkT:=eq_false hk
      case' inr=>have he0:=trivial;have hnT:=eq_false hn;have hkT:=trivial
      all_goals
       simp (disch:=omega)only[↓go1,gB2,go4,simprocAttr,Af,ocU_2,ocU_0,Aa s34,h34,ryC_len,z10,hk0,ocU_len,Bc,BH,and_self,Qj,hid,false_and,EM,ES,he0,hnT,hkT,h1F,h2F,mse,h8T,h18T,m3T,z3,rdC_one,vl4,ak_g1,ak_g2,ak_g3,Aa s35,h35,Aa s36,h36,Aa s27,h27,v_andNot,m2',m4T,m1T,Aa s10,h10]
       trace_state
       all_goals first|rfl|exact⟨rfl,rfl⟩
end Go.Vd
namespace Go.Vd
open Go.Proofs
end Go.Vd
namespace Go.Vd
open Go.Proofs Go.RowKit
def rE{m:Mem}{i j:Nat}{x:List D}{n:Nat}(h:j≠i):Ah (m.put [i] 0 x) [j] 0 n=Ah m [j] 0 n:=AI (by simp[h])
def e1{m:Mem}{x:List D}{n:Nat}:Ah (m.put [16] 0 x) [0] 0 n=Ah m [0] 0 n:=rE (by decide)
def e2{m:Mem}{x:List D}{n:Nat}:Ah (m.put [17] 0 x) [0] 0 n=Ah m [0] 0 n:=rE (by decide)
def e3{m:Mem}{x:List D}{n:Nat}:Ah (m.put [16] 0 x) [1] 0 n=Ah m [1] 0 n:=rE (by decide)
def e4{m:Mem}{x:List D}{n:Nat}:Ah (m.put [17] 0 x) [1] 0 n=Ah m [1] 0 n:=rE (by decide)
def e5{m:Mem}{x:List D}{n:Nat}:Ah (m.put [17] 0 x) [16] 0 n=Ah m [16] 0 n:=rE (by decide)
def e6{m:Mem}{x:List D}{n:Nat}:Ah (m.put [16] 0 x) [17] 0 n=Ah m [17] 0 n:=rE (by decide)
def e7{m:Mem}{v:Vw}{i:Id}:Ah (m.put i 0 (vwC v)) i 0 5=some (vwC v):=AQ rfl
end Go.Vd
namespace Go.Vd
open Go.RowKit
section
variable{P:Program}{B:Nat}{w0:World}{N:Nat}{S:Summs}
end
end Go.Vd
namespace Go.Vd
open Go.Proofs Go.RowKit
section
variable{S:Summs}{l:List Mt}{n1:Bool}{j:Nat}{st:St}{n:Bool}{t:Id}{bs:Bs}
end
def v0:Vw:=keyV [107] false
def t1:List Mt:=[([97],2,false)]
def v1:Vw:=⟨false,1,[107],false,t1,false,[firstTk]⟩
end Go.Vd
namespace Go.Vd
open Go.RowKit Go.ChangeShapes Go.WideShapes Go.Deep
def allG(w:World)(b:Nat):Nat:=match w.heap[b]? with
 |some (.cells c _ _)=>c.size
 |_=>0
def allG_out(w:World)(b:Nat)(h:w.heap.size<=b):allG w b=0:=by
 simp[allG,Array.getElem?_eq_none h]
def cell_in{w:World}{p:Addr}{v:Value}(h:w.cell? p=some v):p.off<allG w p.block:=by
 unfold World.cell? at h;unfold allG;split at h
 ·rename_i c e fz hh;split at h
  ·cases h
  ·rw[hh];exact(Qs.1 h).1
 ·cases h
def exists_list{α:Type}{p:Nat->α->Prop}:∀n,(∀i,i<n->∃x,p i x)->∃l:List α,l.length=n∧∀i x,l[i]?=some x->p i x
 |0,_=>⟨[],rfl,by simp⟩
 |n+1,h=>by
  obtain⟨l,h1,h2⟩:=exists_list n (λi hi=>h i (by omega));obtain⟨x,hx⟩:=h n (by omega);refine⟨l++[x],by simp[h1],λi y hy=>?_⟩;by_cases hi:i<l.length
  ·rw[Ql hi]at hy;exact h2 i y hy
  ·rw[Qk (by omega)]at hy;have hi0:i-l.length=0:=by
    rcases Nat.eq_zero_or_pos (i-l.length)with e|e
    ·exact e
    ·rw[List.getElem?_eq_none (by simp;omega)]at hy;cases hy
   rw[hi0]at hy;simp only[Qc,Qf]at hy;subst hy;have:i=n:=by omega
   subst this;exact hx
def isSt(P:Program)(t:TypeId):Bool:=match P.underlying t with
 |some (.struct _)=>true
 |_=>false
def wrapD:Bool->List D->D
 |true,cs=> .agg cs
 |false,[d]=>d
 |false,_=> .junk
def FitL(F:TypeId->List D->Prop):List TypeId->List D->Prop
 |[],ds=>ds=[]
 |t::r,ds=>∃a b,ds=a++b∧F t a∧FitL F r b
def Fit(P:Program):Nat->TypeId->List D->Prop
 |0,_,_=>False
 |n+1,t,ds=>match P.underlying t with
  |some .string=>∃s,ds=[.str s]
  |some .bool=>∃b,ds=[.bool b]
  |some (.int k)=>∃x,ds=[.int k x]∧(Lit.int k x).wf=true
  |some (.struct fs)=>FitL (Fit P n) (fs.toList.map (·.type)) ds
  |some (.slice e)=>∃nl xs,ds=[.slice nl [] xs]∧(nl=true->xs=[])∧∀x∈xs,∃cs,x=wrapD (isSt P e) cs∧Fit P n e cs
  |_=>False
def tile(P:Program)(c:Nat):List Field->Nat->Bool
 |[],o=>o==c
 |f::r,o=>f.offset==o&&tile P c r (o+P.cellsOf f.type)
def plainT(P:Program):Nat->TypeId->Bool
 |0,_=>false
 |n+1,t=>match P.underlying t with
  |some .string=>P.cellsOf t==1
  |some .bool=>P.cellsOf t==1
  |some (.int _)=>P.cellsOf t==1
  |some (.struct fs)=>tile P (P.cellsOf t) fs.toList 0&&fs.toList.all λf=>plainT P n f.type
  |some (.slice e)=>P.cellsOf t==1&&plainT P n e
  |_=>false
structure Says (w:World) (ds:List D) (cs:List Value):Prop where
 len:ds.length=cs.length
 calm:∀d∈ds,d.calm1=true
 un:ds.map D.un1=ds
 rep:∀(j:Nat) d v,ds[j]?=some d->cs[j]?=some v->Rep w (CG (allG w)) d v∧v.oneCell'=true
theorem Says.one {w : World} {d : D} {v : Value} (h1 : d.calm1 = true) (h2 : d.un1 = d) (h3 : Rep w (CG (allG w)) d v) (h4 : v.oneCell' = true) : Says w [d] [v] :=
 ⟨rfl, fun x hx => by simp only [List.mem_cons, List.mem_nil_iff, or_false] at hx; subst hx; exact h1, by simp [h2], fun j x y hx hy => by
  match j with
  | 0 => simp only [Qc, Qf] at hx hy; subst hx hy; exact ⟨h3, h4⟩
  | j + 1 => simp at hx⟩
def flat_wrap{c:Nat}{b:Bool}:∀(l:List (List D))(j:Nat)(d:D),(∀ds∈l,ds.length=c∧(wrapD b ds).cells=ds)->(flat (l.map (wrapD b)))[j]?=some d->∃i k ds,l[i]?=some ds∧ds[k]?=some d∧j=i*c+k
 |[],j,d,_,h=>by simp[flat]at h
 |x::r,j,d,hl,h=>by
  obtain⟨h1,h2⟩:=hl x (List.mem_cons_self ..);simp only[List.map_cons,flat,h2]at h;by_cases hj:j<x.length
  ·rw[Ql hj]at h;exact⟨0,j,x,rfl,h,by omega⟩
  ·rw[Qk (by omega)]at h;obtain⟨i,k,ds,e1,e2,e3⟩:=flat_wrap r _ d (λds hd=>hl ds (Qw _ hd)) h;refine⟨i+1,k,ds,by simpa using e1,e2,?_⟩;rw[Nat.succ_mul];omega
section
variable{H:Type}{enc:TypeId×Value->H}{P:Program}{w:World}{base:Nat}{spare:Nat->Bool}{held:Bool}
def read_fields{n:Nat}{cs:List Value}{fuel:Nat}(ih:∀t,plainT P n t=true->∀(fuel:Nat)(cs:List Value) x,DataW.trod enc P w base spare held fuel t cs=some x->cs.length=P.cellsOf t∧∃ds,Fit P n t ds∧Says w ds cs):
  ∀(fs:List Field)(o:Nat),tile P cs.length fs o=true->(fs.all λf=>plainT P n f.type)=true->(∀(j:Nat) f,fs[j]?=some f->∃y,DataW.trod enc P w base spare held fuel f.type ((cs.drop f.offset).take (P.cellsOf f.type))=some y)->
   o<=cs.length∧∃ds,FitL (Fit P n) (fs.map (·.type)) ds∧Says w ds (cs.drop o)
 |[],o,ht,_,_=>by
  simp only[tile,beq_iff_eq]at ht;subst ht;refine⟨Nat.le_refl _,[],rfl,by simp,by simp,rfl,by simp⟩
 |f::r,o,ht,hp,hf=>by
  simp only[tile,Qe,beq_iff_eq]at ht;obtain⟨rfl,ht⟩:=ht;simp only[List.all_cons,Qe]at hp;obtain⟨y,hy⟩:=hf 0 f rfl;obtain⟨h1,a,fa,sa⟩:=ih _ hp.1 _ _ _ hy;obtain⟨h2,b,fb,sb⟩:=read_fields ih r _ ht hp.2 (λj g hg=>hf (j+1) g (by simpa using hg));have hsplit:cs.drop f.offset=(cs.drop f.offset).take (P.cellsOf f.type)++cs.drop (f.offset+P.cellsOf f.type):=by
   rw[←List.drop_drop,List.take_append_drop]
  refine⟨by omega,a++b,⟨a,b,rfl,fa,fb⟩,?_⟩;rw[hsplit];refine⟨by rw[Qh,Qh,sa.len,sb.len],λd hd=>?_,by rw[List.map_append,sa.un,sb.un],λj d v hd hv=>?_⟩
  ·rcases List.mem_append.1 hd with h|h
   ·exact sa.calm d h
   ·exact sb.calm d h
  ·have hl:=sa.len;by_cases hj:j<a.length
   ·rw[Ql hj]at hd;rw[Ql (by omega)]at hv;exact sa.rep j d v hd hv
   ·rw[Qk (by omega)]at hd;rw[Qk (by omega),←hl]at hv;exact sb.rep _ d v hd hv
def wrap_cells{n:Nat}{e:TypeId}{ds:List D}(h:Fit P n e ds):(wrapD (isSt P e) ds).cells=ds∧(ds.all D.calm1=true->(wrapD (isSt P e) ds).calm=true):=by
 cases n with
 |zero=>exact h.elim
 |succ n=>
  unfold Fit at h;unfold isSt;split at h
  ·rename_i he;rw[he];obtain⟨s,rfl⟩:=h;exact⟨rfl,λ_=>rfl⟩
  ·rename_i he;rw[he];obtain⟨s,rfl⟩:=h;exact⟨rfl,λ_=>rfl⟩
  ·rename_i he;rw[he];obtain⟨s,rfl,_⟩:=h;exact⟨rfl,λ_=>rfl⟩
  ·rename_i fs he;rw[he];exact⟨rfl,λhc=>by simpa[wrapD,D.calm]using hc⟩
  ·rename_i he;rw[he];obtain⟨nl,xs,rfl,_⟩:=h;exact⟨rfl,λ_=>rfl⟩
  ·exact h.elim
def read_fit:∀(n:Nat)(t:TypeId),plainT P n t=true->∀(fuel:Nat)(cs:List Value) x,DataW.trod enc P w base spare held fuel t cs=some x->cs.length=P.cellsOf t∧∃ds,Fit P n t ds∧Says w ds cs
 |0,t,hp=>by simp[plainT]at hp
 |n+1,t,hp=>by
  intro fuel cs x h;unfold plainT at hp;unfold Fit;split at hp
  ·rename_i ht;simp only[beq_iff_eq]at hp;obtain⟨s,rfl,_⟩:=DataW.trod_string ht h;exact⟨hp.symm,_,⟨s.data.toList,rfl⟩,Says.one rfl rfl (.str _) rfl⟩
  ·rename_i ht;simp only[beq_iff_eq]at hp;obtain⟨b,rfl,_⟩:=DataW.trod_bool ht h;exact⟨hp.symm,_,⟨b,rfl⟩,Says.one rfl rfl (.bool _) rfl⟩
  ·rename_i k ht;simp only[beq_iff_eq]at hp;obtain⟨b,rfl,_,hw⟩:=DataW.trod_int ht h;exact⟨hp.symm,_,⟨b,rfl,hw⟩,Says.one rfl rfl (.int _ _) rfl⟩
  ·rename_i fs ht;simp only[Qe]at hp;obtain⟨ys,n',_,_,hl,hyl,hf⟩:=DataW.trod_struct ht h;rw[←hl]at hp;have:=read_fields (fuel:=n') (read_fit n) fs.toList 0 hp.1 hp.2 (λj f hj=>by
    have hj':fs[j]?=some f:=by simpa using hj
    have hjl:j<fs.size:=(Qs.1 hj').1;have hys:ys[j]?=some (ys[j]'(by omega)):=Qb (by omega);exact⟨_,(hf j f hj').trans hys⟩)
   obtain⟨_,ds,h1,h2⟩:=this;exact⟨hl,ds,h1,by simpa using h2⟩
  ·rename_i e ht;simp only[Qe,beq_iff_eq]at hp;rcases open_slice ht h with ⟨rfl,_⟩|⟨a,len,cap,m,n',D',Pl,rfl,_,hl,_,hm,_,hi⟩
   ·exact⟨hp.1.symm,_,⟨true,[],rfl,(λ_=>rfl),(λx hx=>by cases hx)⟩,Says.one rfl rfl (.nils []) rfl⟩
   ·have hlm:len<=m:=by rw[hm];split<;>omega
    have hc:=exists_list (p:=λi (ds:List D)=>Fit P n e ds∧ds.length=P.cellsOf e∧ds.all D.calm1=true∧∀(j:Nat) d,ds[j]?=some d->∃v,w.cell? (a.add (i*P.cellsOf e+j))=some v∧Rep w (CG (allG w)) d v∧v.oneCell'=true) len (λi hil=>by
     obtain⟨cs',h1,h2⟩:=hi i (by omega);obtain⟨h3,ds,h4,h5⟩:=read_fit n e hp.2 _ _ _ h2;refine⟨ds,h4,h5.len.trans h3,List.all_eq_true.2 h5.calm,λj d hd=>?_⟩;have hj:j<ds.length:=(Qt.1 hd).1;have hjc:j<cs'.length:=by rw[←h5.len];exact hj
     obtain⟨_,_,hat⟩:=World.cells?_some h1;obtain⟨r1,r2⟩:=h5.rep j d _ hd (Qb hjc);refine⟨_,?_,r1,r2⟩;rw[←Go.Deep.add_add,hat j (by omega),Qb hjc])
    obtain⟨l,hll,hlp⟩:=hc;have key:∀j,j<len*P.cellsOf e->∃v,w.cell? (a.add j)=some v∧v.oneCell'=true:=by
     intro j hj;have hc0:0<P.cellsOf e:=by
      rcases Nat.eq_zero_or_pos (P.cellsOf e)with h0|h0
      ·rw[h0]at hj;simp at hj
      ·exact h0
     have hi:j / P.cellsOf e<l.length:=by rw[hll];exact Nat.div_lt_of_lt_mul (by rw[Nat.mul_comm];exact hj)
     obtain⟨_,q2,_,q4⟩:=hlp _ _ (Qb hi);have hk:j % P.cellsOf e<(l[j / P.cellsOf e]).length:=by rw[q2];exact Nat.mod_lt _ hc0
     obtain⟨v,h1,_,h3⟩:=q4 _ _ (Qb hk);rw[Nat.mul_comm,Nat.div_add_mod]at h1;exact⟨v,h1,h3⟩
    have hall:∀ds∈l,ds.length=P.cellsOf e∧(wrapD (isSt P e) ds).cells=ds∧(wrapD (isSt P e) ds).calm=true:=λds hd=>by
     obtain⟨i,hi,rfl⟩:=Qr hd;obtain⟨q1,q2,q3,_⟩:=hlp i _ (Qb hi);exact⟨q2,(wrap_cells q1).1,(wrap_cells q1).2 q3⟩
    refine⟨hp.1.symm,[.slice false [] (l.map (wrapD (isSt P e)))],⟨false,_,rfl,(λh0=>by cases h0),λx hx=>?_⟩,Says.one rfl rfl ?_ rfl⟩
    ·obtain⟨ds,hd,rfl⟩:=Qy.1 hx;obtain⟨i,hi,rfl⟩:=Qr hd;exact⟨_,rfl,(hlp i _ (Qb hi)).1⟩
    ·refine .slice [] _ a len cap (P.cellsOf e) (λj=>(w.cell? (a.add j)).getD undef) (by simp[hll]) hl (λd hd=>?_) (λj hj=>?_) (λj hj=>?_) (λj d hd=>?_) (λh0=>?_) (λh=>absurd rfl h) (λd hd=>?_)
     ·obtain⟨ds,hds,rfl⟩:=Qy.1 hd;obtain⟨q1,q2,_⟩:=hall ds hds;rw[q2,q1]
     ·obtain⟨v,hv,_⟩:=key j hj;simp only[hv,Qo]
     ·obtain⟨v,hv,ho⟩:=key j hj;simp only[hv,Qo,ho]
     ·obtain⟨i,k,ds,e1,e2,rfl⟩:=flat_wrap (c:=P.cellsOf e) l j d (λds hds=>⟨(hall ds hds).1,(hall ds hds).2.1⟩) hd;obtain⟨_,_,_,q4⟩:=hlp i ds e1;obtain⟨v,h1,h2,_⟩:=q4 k d e2;simp only[h1,Qo];exact h2
     ·obtain⟨v,hv,_⟩:=key (len*P.cellsOf e-1) (by omega);have:=cell_in hv;rw[Gg,DN]at this;show a.off+len*P.cellsOf e<=allG w a.block;omega
     ·obtain⟨ds,hds,rfl⟩:=Qy.1 hd;exact(hall ds hds).2.2
  ·cases hp
def agg_fit{n:Nat}{r:Reach}{b0:Nat}{t:TypeId}{fs:Array Field}{v:Value}{d:DataW H}{p:List MemPlace}(ht:P.underlying t=some (.struct fs))(hp:plainT P n t=true)(hv:Value.okWide P w r b0 t v)(h:DataW.Trod enc P w base spare held t v d p):
  ∃ds,Fit P n t ds∧Rep w (CG (allG w)) (.agg ds) v∧(D.agg ds).un= .agg ds∧(D.agg ds).calm=true:=by
 obtain⟨cs,rfl,hsz⟩:=okWide_struct ht hv;obtain⟨fuel,hf⟩:=h;obtain⟨_,ds,h1,h2⟩:=read_fit n t hp _ _ _ hf;have hl:ds.length=cs.toList.length:=h2.len;refine⟨ds,h1,.agg ds cs.toList hl.symm (λv hv=>?_) (λj d v hd hv=>(h2.rep j d v hd hv).1),?_,?_⟩
 ·obtain⟨j,hj,rfl⟩:=Qr hv;exact(h2.rep j _ _ (Qb (by omega)) (Qb hj)).2
 ·have:=h2.un;show D.agg _=_
  first|exact congrArg D.agg this|rfl
 ·exact List.all_eq_true.2 h2.calm
end
end Go.Vd
namespace Go.Vd
open Go.Proofs Go.RowKit
section
variable{P:Program}{n:Nat}{t:TypeId}{ds:List D}
def Fit.str(hu:P.underlying t=some .string)(h:Fit P (n+1) t ds):∃s,ds=[.str s]:=by unfold Fit at h;rw[hu]at h;exact h
def Fit.bool(hu:P.underlying t=some .bool)(h:Fit P (n+1) t ds):∃b,ds=[.bool b]:=by unfold Fit at h;rw[hu]at h;exact h
def Fit.int{k:IntKind}(hu:P.underlying t=some (.int k))(h:Fit P (n+1) t ds):∃x,ds=[.int k x]∧(Lit.int k x).wf=true:=by unfold Fit at h;rw[hu]at h;exact h
def Fit.struct{fs:Array Field}(hu:P.underlying t=some (.struct fs))(h:Fit P (n+1) t ds):FitL (Fit P n) (fs.toList.map (·.type)) ds:=by unfold Fit at h;rw[hu]at h;exact h
def Fit.slice{e:TypeId}(hu:P.underlying t=some (.slice e))(h:Fit P (n+1) t ds):∃nl xs,ds=[.slice nl [] xs]∧(nl=true->xs=[])∧∀x∈xs,∃cs,x=wrapD (isSt P e) cs∧Fit P n e cs:=by unfold Fit at h;rw[hu]at h;exact h
end
def all_map{α:Type}{f:α->D}{p:α->Prop}:∀{xs:List D},(∀x∈xs,∃y,x=f y∧p y)->∃l:List α,xs=l.map f∧∀y∈l,p y
 |[],_=>⟨[],rfl,λy hy=>by cases hy⟩
 |x::r,h=>by
  obtain⟨y,rfl,hp⟩:=h x (List.mem_cons_self ..);obtain⟨l,rfl,hl⟩:=all_map (f:=f) (p:=p) (xs:=r) (λz hz=>h z (Qw _ hz));exact⟨y::l,rfl,λz hz=>by
   rcases List.mem_cons.1 hz with rfl|hz
   ·exact hp
   ·exact hl z hz⟩
def wf_u8{x:Int}(h:(Lit.int .u8 x).wf=true):0<=x∧x<256:=by
 simp only[Lit.wf,Qe,decide_eq_true_eq]at h;have h1:=h.1;have h2:=h.2;simp[IntKind.min,IntKind.max,IntKind.bits,IntKind.signed]at h1 h2;omega
section
variable{n:Nat}{ds:List D}
def fit_rules(h:Fit Qd (n+3) 45 ds):∃nl l,ds=[.slice nl [] (An l)]∧(nl=true->l=[])∧DM l:=by
 obtain⟨nl,xs,rfl,hn,hx⟩:=Fit.slice underlying45 h;obtain⟨l,rfl,hl⟩:=all_map (f:=rlD) (p:=λr=>0<=r.2∧r.2<256) (xs:=xs) (λx hxx=>by
  obtain⟨cs,rfl,hf⟩:=hx x hxx;rw[show isSt Qd 191=true by kernel_rfl];have hf:=Fit.struct underlying191 hf;obtain⟨a,b,rfl,f1,a2,b2,rfl,f2,rfl⟩:=hf;obtain⟨s,rfl⟩:=Fit.str underlying9 f1;obtain⟨x,rfl,hw⟩:=Fit.int underlying5 f2;exact⟨(s,x),rfl,wf_u8 hw⟩)
 exact⟨nl,l,rfl,λe=>by simpa using hn e,hl⟩
def fit_mounts(h:Fit Qd (n+4) 40 ds):∃nl l,ds=[.slice nl [] (Ar l)]:=by
 obtain⟨nl,xs,rfl,hn,hx⟩:=Fit.slice underlying40 h;obtain⟨l,rfl,hl⟩:=all_map (f:=mtD) (p:=λ_=>True) (xs:=xs) (λx hxx=>by
  obtain⟨cs,rfl,hf⟩:=hx x hxx;rw[show isSt Qd 118=true by kernel_rfl];have hf:=Fit.struct underlying118 hf;obtain⟨a,b,rfl,f1,a2,b2,rfl,f2,rfl⟩:=hf;obtain⟨s,rfl⟩:=Fit.str underlying9 f1;have g:=Fit.struct underlying116 f2;obtain⟨a',b',rfl,g1,a2',b2',rfl,g2,rfl⟩:=g;obtain⟨x,rfl,_⟩:=Fit.int underlying3 g1;obtain⟨c,rfl⟩:=Fit.bool underlying4 g2;exact⟨(s,x,c),rfl,trivial⟩)
 exact⟨nl,l,rfl⟩
def fit_tokens(h:Fit Qd (n+6) 41 ds):∃nl l,ds=[.slice nl [] (Aw l)]∧∀k∈l,rawT k:=by
 obtain⟨nl,xs,rfl,hn,hx⟩:=Fit.slice underlying41 h;obtain⟨l,rfl,hl⟩:=all_map (f:=tkD) (p:=rawT) (xs:=xs) (λx hxx=>by
  obtain⟨cs,rfl,hf⟩:=hx x hxx;rw[show isSt Qd 134=true by kernel_rfl];have hf:=Fit.struct underlying134 hf;obtain⟨a,b,rfl,f1,a2,b2,rfl,f2,a3,b3,rfl,f3,rfl⟩:=hf;obtain⟨s,rfl⟩:=Fit.str underlying9 f1;obtain⟨s2,rfl⟩:=Fit.str underlying9 f2;obtain⟨nr,lr,rfl,h1,h2⟩:=fit_rules f3;exact⟨(s,s2,nr,lr),rfl,h1,h2⟩)
 exact⟨nl,l,rfl,hl⟩
def fit_ints(h:Fit Qd (n+2) 44 ds):∃nl l,ds=[.slice nl [] (AS l)]:=by
 obtain⟨nl,xs,rfl,hn,hx⟩:=Fit.slice underlying44 h;obtain⟨l,rfl,hl⟩:=all_map (f:=λx=>D.int .i64 x) (p:=λ_=>True) (xs:=xs) (λx hxx=>by
  obtain⟨cs,rfl,hf⟩:=hx x hxx;rw[show isSt Qd 3=false by kernel_rfl];obtain⟨x,rfl,_⟩:=Fit.int underlying3 hf;exact⟨x,rfl,trivial⟩)
 exact⟨nl,l,rfl⟩
def fit_sight(h:Fit Qd 8 43 ds):∃v:Vw,ds=vwC v∧∀k∈v.ks,rawT k:=by
 have h:=Fit.struct underlying43 h;obtain⟨a1,b1,rfl,f1,a2,b2,rfl,f2,a3,b3,rfl,f3,a4,b4,rfl,f4,a5,b5,rfl,f5,rfl⟩:=h;obtain⟨x1,rfl⟩:=Fit.bool underlying4 f1;obtain⟨x2,rfl,_⟩:=Fit.int underlying3 f2;obtain⟨x3,rfl⟩:=Fit.str underlying9 f3;obtain⟨n4,x4,rfl⟩:=fit_mounts f4;obtain⟨n5,x5,rfl,h5⟩:=fit_tokens f5;exact⟨⟨x1,x2,x3,n4,x4,n5,x5⟩,rfl,h5⟩
def fit_ask(h:Fit Qd 8 47 ds):∃a:Ak,ds=akC a∧DM a.rs∧0<=a.op∧a.op<256:=by
 have h:=Fit.struct underlying47 h;obtain⟨a1,b1,rfl,f1,a2,b2,rfl,f2,a3,b3,rfl,f3,a4,b4,rfl,f4,a5,b5,rfl,f5,a6,b6,rfl,f6,a7,b7,rfl,f7,a8,b8,rfl,f8,a9,b9,rfl,f9,a10,b10,rfl,f10,a11,b11,rfl,f11,rfl⟩:=h;obtain⟨x1,rfl,w1⟩:=Fit.int underlying5 f1;obtain⟨x2,rfl⟩:=Fit.str underlying9 f2;obtain⟨x3,rfl⟩:=Fit.str underlying9 f3;obtain⟨x4,rfl⟩:=Fit.str underlying9 f4;obtain⟨x5,rfl,_⟩:=Fit.int underlying3 f5;obtain⟨x6,rfl,_⟩:=Fit.int underlying3 f6;obtain⟨x7,rfl⟩:=Fit.bool underlying4 f7;obtain⟨n8,x8,rfl⟩:=fit_ints f8;obtain⟨x9,rfl⟩:=Fit.str underlying9 f9;obtain⟨n10,x10,rfl,_,h10⟩:=fit_rules f10;obtain⟨x11,rfl⟩:=Fit.str underlying9 f11;obtain⟨w2,w3⟩:=wf_u8 w1;exact⟨⟨x1,x2,x3,x4,x5,x6,x7,n8,x8,x9,n10,x10,x11⟩,rfl,h10,w2,w3⟩
end
section
variable{n:Nat}{ds:List D}
def fit_items(h:Fit Qd (n+3) 22 ds):∃(nl:Bool)(l:List (Bs×Bs×Bool)),ds=[.slice nl [] (l.map itD)]:=by
 obtain⟨nl,xs,rfl,hn,hx⟩:=Fit.slice underlying22 h;obtain⟨l,rfl,hl⟩:=all_map (f:=itD) (p:=λ_=>True) (xs:=xs) (λx hxx=>by
  obtain⟨cs,rfl,hf⟩:=hx x hxx;rw[show isSt Qd 38=true by kernel_rfl];have hf:=Fit.struct underlying38 hf;obtain⟨a,b,rfl,f1,a2,b2,rfl,f2,a3,b3,rfl,f3,rfl⟩:=hf;obtain⟨s,rfl⟩:=Fit.str underlying9 f1;obtain⟨s2,rfl⟩:=Fit.str underlying9 f2;obtain⟨c,rfl⟩:=Fit.bool underlying4 f3;exact⟨(s,s2,c),rfl,trivial⟩)
 exact⟨nl,l,rfl⟩
def fit_strs(h:Fit Qd (n+2) 28 ds):∃nl l,ds=[.slice nl [] (Au l)]∧(nl=true->l=[]):=by
 obtain⟨nl,xs,rfl,hn,hx⟩:=Fit.slice underlying28 h;obtain⟨l,rfl,hl⟩:=all_map (f:=D.str) (p:=λ_=>True) (xs:=xs) (λx hxx=>by
  obtain⟨cs,rfl,hf⟩:=hx x hxx;rw[show isSt Qd 9=false by kernel_rfl];obtain⟨s,rfl⟩:=Fit.str underlying9 hf;exact⟨s,rfl,trivial⟩)
 exact⟨nl,l,rfl,λe=>by simpa using hn e⟩
def fit_lists(h:Fit Qd (n+5) 24 ds):∃(nl:Bool)(l:List (Bs×Bool×List Bs)),ds=[.slice nl [] (l.map ltD)]∧∀x∈l,x.2.1=true->x.2.2=[]:=by
 obtain⟨nl,xs,rfl,hn,hx⟩:=Fit.slice underlying24 h;obtain⟨l,rfl,hl⟩:=all_map (f:=ltD) (p:=λx=>x.2.1=true->x.2.2=[]) (xs:=xs) (λx hxx=>by
  obtain⟨cs,rfl,hf⟩:=hx x hxx;rw[show isSt Qd 109=true by kernel_rfl];have hf:=Fit.struct underlying109 hf;obtain⟨a,b,rfl,f1,a2,b2,rfl,f2,rfl⟩:=hf;obtain⟨s,rfl⟩:=Fit.str underlying9 f1;obtain⟨nl2,l2,rfl,h2⟩:=fit_strs f2;exact⟨(s,nl2,l2),rfl,h2⟩)
 exact⟨nl,l,rfl,hl⟩
def fit_known(h:Fit Qd 8 26 ds):∃d:Dk,ds=dkC d∧∀x∈d.lss,x.2.1=true->x.2.2=[]:=by
 have h:=Fit.struct underlying26 h;obtain⟨a1,b1,rfl,f1,a2,b2,rfl,f2,rfl⟩:=h;obtain⟨n1,l1,rfl⟩:=fit_items f1;obtain⟨n2,l2,rfl,h2⟩:=fit_lists f2;exact⟨⟨n1,l1,n2,l2⟩,rfl,h2⟩
end
def rights_law{w:World}{v0 v1 v2:Value}(h0:∃v:Vw,(∀k∈v.ks,rawT k)∧Rep w (CG (allG w)) (.agg (vwC v)) v0)(h1:∃a:Ak,DM a.rs∧0<=a.op∧a.op<256∧Rep w (CG (allG w)) (.agg (akC a)) v1)(h2:∃d:Dk,(∀x∈d.lss,x.2.1=true->x.2.2=[])∧Rep w (CG (allG w)) (.agg (dkC d)) v2):
  Calls Qd 7 #[v0,v1,v2] w λe w'=>e= .returned (.bool true)∧Below w.heap.size w w':=by
 obtain⟨v,hv,r0⟩:=h0;obtain⟨a,ha,ho,ho2,r1⟩:=h1;obtain⟨d,hd,r2⟩:=h2;refine row_true ko7 (G:=allG w) (λb hb=>allG_out w b hb) (ds:=[.agg (vwC v),.agg (akC a),.agg (dkC d)]) (vs:=[v0,v1,v2]) rfl (λj d x hd hx=>?_) rfl rfl (R7_eq v a d hv ho ho2 ha hd)
 match j with
 |0=>simp only[Qc,Qf]at hd hx;subst hd hx;exact r0
 |1=>simp only[Qp,Qc,Qf]at hd hx;subst hd hx;exact r1
 |2=>simp only[Qp,Qc,Qf]at hd hx;subst hd hx;exact r2
 |j+3=>simp at hd
end Go.Vd
end
