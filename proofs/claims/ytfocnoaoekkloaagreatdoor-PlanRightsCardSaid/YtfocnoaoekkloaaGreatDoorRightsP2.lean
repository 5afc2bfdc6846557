/-
  A part of the proof: the layers over the model. Nothing in it is assumed.
-/
import Derived.Test.YtfocnoaoekkloaaGreatDoorRightsP1
import Derived.IntWalk
import Derived.KernelRfl
import Derived.Test.YtfocnoaoekkloaaGreatDoorProg
import Derived.Laws.AppendOwn
import Derived.Shelf.Strings.Split

set_option linter.unusedSimpArgs false
set_option linter.unusedVariables false
set_option linter.defProp false
set_option maxHeartbeats 4000000
set_option maxRecDepth 100000
open And renaming intro→Qa
open Option.some renaming injEq→Qb,inj→QD
open Go.Proofs.Tryz renaming prog→Qc
open List renaming getElem?_eq_getElem→Qd,length_cons→Qg,mem_of_getElem?→Qi,length_map→Ql,getElem?_cons_zero→Qn,getElem?_take_of_lt→Qp,all_eq_true→Qr,suffix_cons→Qs,drop_zero→Qt,length_nil→Qv,mem_cons_of_mem→Qz,getElem?_cons_succ→QB,take_add_one→QE,getElem_mem→QG,getElem?_eq_some_iff→QH,drop_eq_getElem_cons→QI,map_cons→QJ,mem_cons→QK,mem_cons_self→QL,findIdx?_eq_some_iff_getElem→QN,getElem?_map→QO,replicate→QP,take_of_length_le→QQ,suffix_refl→QT,count_eq_zero_of_not_mem→QU,head?_cons→QW,getElem_of_mem→QX,map_congr_left→QY,take_succ_cons→QZ,map_map→Q0,findIdx?_eq_none_iff→Q4,cons_append→Q5,drop_eq_nil_of_le→Q7,getElem?_eq_none→Q8,take_append_drop→Q9,take_zero→Za,length_take_le→Zb,drop_succ_cons→Zc,length→Zg
open Int renaming toNat_natCast→Qe,eq_ofNat_of_zero_le→Qu
open Option renaming map_eq_some_iff→Qf,bind_some→Qw,map_some→Qy,bind_eq_some_iff→QM,isSome_some→Ze
open Prod.mk renaming injEq→Qh
open Nat renaming reduceAdd→Qj,reduceEqDiff→Qk,le_refl→Qo,zero_le→Qq,zero_add→QA,sub_zero→QF,le_trans→Q_,lt_of_lt_of_le→Q1,land→Q3,testBit_succ→Q6,add_zero→Zf
open Bool renaming eq_iff_iff→Qm,false_eq_true→QC,eq_false_iff→QR,and_eq_true→QS,false_and→Q2,true_and→Zd
open Array renaming getElem?_eq_some_iff→Qx
open List.cons renaming injEq→QV
open Go.Proofs.Tryz
noncomputable section
namespace Go.Vd
open Go.RowKit
def DOper.strip(o:DOper):DOper:={o with after:=[]}
def D4(S:Summs)(ns:Id)(c:Nat)(ops:List DOper):List DOper->Nat->(Nat->D)->Mem->Option ((Nat->D)×Mem)
 |[],_,s,m=>some (s,m)
 |o::l,k,s,m=>match Bz S ops ((c+k)::ns) o s m with
  |some e=>D4 S ns c ops l (k+1) (CM s o.dst e.d) (Upd.app m e.u)
  |none=>none
def guardOf_strip(ops:List DOper)(s:Nat->D)(o:DOper):Bo (ops.map DOper.strip) s o.strip=Bo ops s o:=by
 unfold Bo;simp only[DOper.strip];cases o.guard with
 |none=>rfl
 |some p=>
  obtain⟨j,b⟩:=p;simp only[QO];cases ops[j]?<;>rfl
def effOf_strip(S:Summs)(ops:List DOper)(fr:Id)(o:DOper)(s:Nat->D)(m:Mem):Bz S (ops.map DOper.strip) fr o.strip s m=Bz S ops fr o s m:=by
 unfold Bz;rw[guardOf_strip];rfl
def evRow_strip(S:Summs)(ns:Id)(c:Nat)(ops:List DOper):∀(l:List DOper)(k:Nat)(s:Nat->D)(m:Mem),D4 S ns c (ops.map DOper.strip) (l.map DOper.strip) k s m=D4 S ns c ops l k s m
 |[],k,s,m=>rfl
 |o::l,k,s,m=>by
  simp only[QJ,D4,effOf_strip];cases Bz S ops ((c+k)::ns) o s m with
  |none=>rfl
  |some e=>simp only;exact evRow_strip S ns c ops l (k+1) _ _
def evText_strip(S:Summs)(ns:Id)(c:Nat)(ops:List DOper):∀(l:List DOper)(k:Nat)(s:Nat->D)(m:Mem),B3 S ns c (ops.map DOper.strip) (l.map DOper.strip) k s m=B3 S ns c ops l k s m
 |[],k,s,m=>rfl
 |o::l,k,s,m=>by
  simp only[QJ,B3,effOf_strip];cases Bz S ops ((c+k)::ns) o s m with
  |none=>rfl
  |some e=>simp only;rw[show o.strip.dst=o.dst from rfl,evText_strip S ns c ops l (k+1) _ _];rfl
def evRow_sched(S:Summs)(ns:Id)(c:Nat)(ops:List DOper):∀(l:List DOper)(k:Nat)(s:Nat->D)(m:Mem),l=ops.drop k->D4 S ns c ops l k s m=CS S ns c ops (List.range' k l.length) s m
 |[],k,s,m,_=>rfl
 |o::l,k,s,m,hl=>by
  have hok:ops[k]?=some o:=by
   have:(ops.drop k)[0]?=some o:=by rw[←hl];rfl
   rw[List.getElem?_drop]at this;simpa using this
  have hl':l=ops.drop (k+1):=by
   have:(ops.drop k).drop 1=ops.drop (k+1):=by rw[List.drop_drop]
   rw[←this,←hl];rfl
  rw[Qg,List.range'_succ];simp only[D4,CS,hok];cases Bz S ops ((c+k)::ns) o s m with
  |none=>rfl
  |some e=>simp only;exact evRow_sched S ns c ops l (k+1) _ _ hl'
inductive DC where
 |skip
 |ret
 |exit (i:Nat)
 |row (ops:List DOper)
 |drawn (ops:List DOper) (ps:List (Nat×Nat))
 |seq (a b:DC)
 |cond (c:Arg) (a b:DC)
 |block (i:Nat) (c:DC)
 |loop (c:DC)
def befsFrom(ps:List (List Nat)):List (List Nat):=
 ps.foldl (λacc p=>acc++[(p.flatMap λj=>j::acc.getD j []).eraseDups]) []
def mkDrawn(P:Program)(N:Nat)(ops:Array Oper):Option DC:=
 match Dh P N ops.toList with
 |some dops=>
  if Fm (dops.map (·.after)) (befsFrom (dops.map (·.after)))=true∧slotsOk dops (befsFrom (dops.map (·.after)))=true∧E6 .any ops (Region.linearise .any ops 0)=true∧
   E6 .text ops (Region.linearise .text ops 0)=true∧E6 .gc ops (Region.linearise .gc ops 0)=true
  then some (.drawn (dops.map DOper.strip) (pairsOf dops (befsFrom (dops.map (·.after)))))else none
 |none=>none
def B7(P:Program)(N:Nat):Code->Option DC
 | .skip=>some .skip
 | .ret=>some .ret
 | .exit i=>some (.exit i)
 | .region _ ops false=>(Dh P N ops.toList).map λl=> .row (l.map DOper.strip)
 | .region _ ops true=>mkDrawn P N ops
 | .seq a b=>match B7 P N a,B7 P N b with
  |some a,some b=>some (.seq a b)
  |_,_=>none
 | .cond c a b=>match AG c,B7 P N a,B7 P N b with
  |some c,some a,some b=>some (.cond c a b)
  |_,_,_=>none
 | .block i c=>(B7 P N c).map (.block i)
 | .loop c=>(B7 P N c).map .loop
 |_=>none
structure St where
 s:Nat->D
 m:Mem
 c:Nat
inductive Ex where
 |normal
 |ret
 |exit (i:Nat)
def Ex.toExit:Ex->Exit
 | .normal=> .normal
 | .ret=> .ret
 | .exit i=> .exit i
inductive Lp (R:St->Ex->St->Prop):Nat->St->Ex->St->Prop
 |stop (st:St) (e:Ex) (st':St):R st e st'->e≠ .normal->Lp R 0 st e st'
 |more (n:Nat) (st st1:St) (e:Ex) (st':St):R st .normal st1->Lp R n st1 e st'->Lp R (n+1) st e st'
def Ev(S:Summs)(ns:Id):DC->St->Ex->St->Prop
 | .skip,st,e,st'=>e= .normal∧st'=st
 | .ret,st,e,st'=>e= .ret∧st'=st
 | .exit i,st,e,st'=>e= .exit i∧st'=st
 | .row ops,st,e,st'=>e= .normal∧D4 S ns st.c ops ops 0 st.s st.m=some (st'.s,st'.m)∧st'.c=st.c+ops.length
 | .drawn ops ps,st,e,st'=>e= .normal∧(∃f,B3 S ns st.c ops ops 0 st.s st.m=some (st'.s,st'.m,f)∧feetOk f ps)∧st'.c=st.c+ops.length
 | .seq a b,st,e,st'=>∃e1 st1,Ev S ns a st e1 st1∧((e1= .normal∧Ev S ns b st1 e st')∨(e1≠ .normal∧e=e1∧st'=st1))
 | .cond c a b,st,e,st'=>(c.ev st.s= .bool true∧Ev S ns a st e st')∨(c.ev st.s= .bool false∧Ev S ns b st e st')
 | .block i c,st,e,st'=>∃e1,Ev S ns c st e1 st'∧((e1= .exit i∧e= .normal)∨(e1≠ .exit i∧e=e1))
 | .loop c,st,e,st'=>∃n,Lp (Ev S ns c) n st e st'
def DC.wp(S:Summs)(ns:Id)(dc:DC)(Q:Ex->St->Prop)(st:St):Prop:=∃e st',Ev S ns dc st e st'∧Q e st'
def wp_loop_n{P:Program}{Q:Exit->Act->World->Prop}{c:Code}(J:Nat->Act->World->Prop)
  (round:∀n a w,J n a w->c.wp P (Exit.then (λa' w'=>∃k,k<n∧J k a' w') Q) a w) {n:Nat} {a:Act} {w:World} (h0:J n a w):(Code.loop c).wp P Q a w:=by
 intro b k cs;have key:∀n a w,J n a w->∃e a' w',Q e a' w'∧Arrives P (lone (b.at a (.code c:: .inLoop c::k)) cs w) b k cs e a' w':=by
  intro n;induction n using Nat.strongRecOn with
  |_ n ih=>
   intro a w hI;obtain⟨e,a₁,w₁,hq,harr⟩:=round n a w hI b (.inLoop c::k) cs;cases e with
   |normal=>
    obtain⟨n',hlt,hI₁⟩:=hq;obtain⟨e₂,a₂,w₂,hq₂,harr₂⟩:=ih n' hlt a₁ w₁ hI₁;exact⟨e₂,a₂,w₂,hq₂,.of_steps (Steps.trans harr (.one step_inLoop)) harr₂⟩
   |exit id=>exact⟨_,a₁,w₁,hq,.pass (x:= .inLoop c) rfl (λ_ _=> .inl (by simp)) harr⟩
   |goto l=>exact⟨_,a₁,w₁,hq,.pass (x:= .inLoop c) rfl (λ_ _=> .inl (by simp)) harr⟩
   |ret=>exact⟨_,a₁,w₁,hq,.pass (x:= .inLoop c) rfl (λ_ _=> .inl (by simp)) harr⟩
   |panic ch=>exact⟨_,a₁,w₁,hq,.pass (x:= .inLoop c) rfl (λ_ _=> .inl (by simp)) harr⟩
   |outgrown=>exact⟨_,a₁,w₁,hq,.pass (x:= .inLoop c) rfl (λ_ _=> .inl (by simp)) harr⟩
 obtain⟨e,a',w',hq,harr⟩:=key n a w h0;exact⟨e,a',w',hq,.of_steps (.one step_loop) harr⟩
section
variable{P:Program}{B:Nat}{w0:World}{N:Nat}{ns:Id}{S:Summs}
def mkDrawn_some{ops:Array Oper}{dc:DC}(h:mkDrawn P N ops=some dc):∃dops befs,Dh P N ops.toList=some dops∧Fm (dops.map (·.after)) befs=true∧slotsOk dops befs=true∧
  (∀md,E6 md ops (Region.linearise md ops 0)=true)∧dc= .drawn (dops.map DOper.strip) (pairsOf dops befs):=by
 unfold mkDrawn at h;split at h
 ·rename_i dops hd;split at h
  ·rename_i hc;simp only[Qb]at h;refine⟨dops,_,hd,hc.1,hc.2.1,λmd=>?_,h.symm⟩;cases md
   ·exact hc.2.2.2.1
   ·exact hc.2.2.2.2
   ·exact hc.2.2.1
  ·cases h
 ·cases h
def Holds(P:Program)(B:Nat)(w0:World)(N:Nat)(ns:Id)(st:St)(a:Act)(w:World)(g:Gh):Prop:=InS P B w0 N ns st.c st.s st.m a w g
def Post(P:Program)(B:Nat)(w0:World)(N:Nat)(ns:Id)(st:St)(w:World)(g:Gh)(e:Ex)(st':St):Exit->Act->World->Prop:=
 λe' a' w'=>e'=e.toExit∧∃g',Holds P B w0 N ns st' a' w' g'∧Ext w g w' g'∧Gm ns st.m g st'.m g'
def Post.trans{st st1 st':St}{w w1:World}{g g1:Gh}{e:Ex}{e':Exit}{a':Act}{w':World}(hx:Ext w g w1 g1)(hk:Gm ns st.m g st1.m g1)(h:Post P B w0 N ns st1 w1 g1 e st' e' a' w'):Post P B w0 N ns st w g e st' e' a' w':=by
 obtain⟨h1,g',h2,h3,h4⟩:=h;exact⟨h1,g',h2,hx.trans h3,hk.trans h4⟩
def schedule_goes{ops:Array Oper}{dops:List DOper}{befs:List (List Nat)}(hops:Dh P N ops.toList=some dops)(hb:Fm (dops.map (·.after)) befs=true)
  (hord:∀md,E6 md ops (Region.linearise md ops 0)=true) (mixed:Bool) (t:Nat):
  Goes dops (EK befs) (λ_=>false) (Region.schedule mixed ops t)∧(Region.schedule mixed ops t).foldl ins (λ_=>false)=below dops.length:=by
 obtain⟨hl,hall⟩:=Dg hops;have hlen:dops.length=ops.size:=by simpa using hl
 have hps:∀(k:Nat) o,ops[k]?=some o->(dops.map (·.after)).getD k []=preds o:=by
  intro k o ho;obtain⟨d,hd,htr⟩:=hall k o (by simpa using ho);simp[List.getD,hd,(EU htr).2.2.1]
 rw[hlen];unfold Region.schedule;split
 ·exact EE hlen hps hb (hord .any) t
 ·split
  ·exact EE hlen hps hb (hord .text) (t / 2)
  ·exact EE hlen hps hb (hord .gc) (t / 2)
def ev_sound(hS:Summs.ok P S):∀(code:Code)(dc:DC),B7 P N code=some dc->∀(st:St)(e:Ex)(st':St),Ev S ns dc st e st'->∀(a:Act)(w:World)(g:Gh),Holds P B w0 N ns st a w g->
  code.wp P (Post P B w0 N ns st w g e st') a w:=by
 intro code;induction code with
 |skip=>
  intro dc htr st e st' hev a w g hx;simp only[B7,Qb]at htr;subst htr;obtain⟨rfl,rfl⟩:=hev;exact wp_skip ⟨rfl,g,hx,Ext.refl w g,Gm.refl _ _ _⟩
 |ret=>
  intro dc htr st e st' hev a w g hx;simp only[B7,Qb]at htr;subst htr;obtain⟨rfl,rfl⟩:=hev;exact wp_ret ⟨rfl,g,hx,Ext.refl w g,Gm.refl _ _ _⟩
 |exit i=>
  intro dc htr st e st' hev a w g hx;simp only[B7,Qb]at htr;subst htr;obtain⟨rfl,rfl⟩:=hev;exact wp_exit ⟨rfl,g,hx,Ext.refl w g,Gm.refl _ _ _⟩
 |region id ops draw=>
  intro dc htr st e st' hev a w g hx;cases draw with
  |false=>
   simp only[B7,Qf]at htr;obtain⟨dops,hops,rfl⟩:=htr;obtain⟨rfl,he,hc⟩:=hev;rw[evRow_strip,evRow_sched S ns st.c dops dops 0 _ _ rfl,←List.range_eq_range']at he;refine region_wp hS hops he hx (λa' w' g' h1 h2 h3=>⟨rfl,g',?_,h2,h3⟩);unfold Holds;rw[hc,Ql];exact h1
  |true=>
   simp only[B7]at htr;obtain⟨dops,befs,hops,hb,hs,hord,rfl⟩:=mkDrawn_some htr;obtain⟨rfl,⟨f,he,hf⟩,hc⟩:=hev;rw[evText_strip]at he;refine wp_region_draw (λt=>?_);obtain⟨g1,g2⟩:=schedule_goes hops hb hord (P.follows .mixedOrders) t;have hsch:=text_sched (c:=st.c) (ns:=ns) hS hb hs he hf g1 g2;have hx':InS P B w0 N ns st.c st.s st.m a w.drew g:=⟨hx.inv.drew,λt=>(hx.slots t).ext (Ext.drew w g),hx.size,hx.defers,hx.fresh⟩;refine sched_wp hS hops _ (λ_=>false) st.s st.m a w.drew g st'.s st'.m (fits_goes g1) hsch (hx'.start _) (λa' w' g' h1 h2 h3=>⟨rfl,g',?_,(Ext.drew w g).trans h2,h3⟩);unfold Holds;rw[hc,Ql];rw[g2]at h1;exact h1.done
 |seq x y ihx ihy=>
  intro dc htr st e st' hev a w g hx;simp only[B7]at htr;split at htr
  ·rename_i dx dy h1 h2;simp only[Qb]at htr;subst htr;obtain⟨e1,st1,hev1,hor⟩:=hev;have hwp:=ihx dx h1 st e1 st1 hev1 a w g hx;refine wp_seq (wp_mono hwp ?_);rintro e' a' w' ⟨rfl,g',hh,hxt,hkp⟩;rcases hor with ⟨rfl,hev2⟩|⟨hne,rfl,rfl⟩
   ·exact wp_mono (ihy dy h2 st1 e st' hev2 a' w' g' hh) (λe'' a'' w'' h=>h.trans hxt hkp)
   ·cases e with
    |normal=>exact absurd rfl hne
    |ret=>exact⟨rfl,g',hh,hxt,hkp⟩
    |exit i=>exact⟨rfl,g',hh,hxt,hkp⟩
  ·cases htr
 |cond c x y ihx ihy=>
  intro dc htr st e st' hev a w g hx;simp only[B7]at htr;split at htr
  ·rename_i dcc dx dy h0 h1 h2;simp only[Qb]at htr;subst htr;have hc:=hx.slots.arg h0;rcases hev with ⟨ht,hev⟩|⟨ht,hev⟩
   ·rw[ht]at hc;exact wp_cond_true hc.bool_inv (ihx dx h1 st e st' hev a w g hx)
   ·rw[ht]at hc;exact wp_cond_false hc.bool_inv (ihy dy h2 st e st' hev a w g hx)
  ·cases htr
 |block i c ih=>
  intro dc htr st e st' hev a w g hx;simp only[B7,Qf]at htr;obtain⟨dcc,h1,rfl⟩:=htr;obtain⟨e1,hev1,hor⟩:=hev;refine wp_block (wp_mono (ih dcc h1 st e1 st' hev1 a w g hx) ?_);rintro e' a' w' ⟨rfl,g',hh,hxt,hkp⟩;rcases hor with ⟨rfl,rfl⟩|⟨hne,rfl⟩
  ·simp only[Ex.toExit,Exit.inBlock,if_true];exact⟨rfl,g',hh,hxt,hkp⟩
  ·cases e with
   |normal=>exact⟨rfl,g',hh,hxt,hkp⟩
   |ret=>exact⟨rfl,g',hh,hxt,hkp⟩
   |exit j=>
    simp only[Ex.toExit,Exit.inBlock];rw[if_neg (λe=>hne (by rw[e]))];exact⟨rfl,g',hh,hxt,hkp⟩
 |loop c ih=>
  intro dc htr st e st' hev a w g hx;simp only[B7,Qf]at htr;obtain⟨dcc,h1,rfl⟩:=htr;obtain⟨n,hlp⟩:=hev;refine wp_loop_n (λn a' w'=>∃st1 g1,Holds P B w0 N ns st1 a' w' g1∧Ext w g w' g1∧Gm ns st.m g st1.m g1∧Lp (Ev S ns dcc) n st1 e st') ?_ ⟨st,g,hx,Ext.refl w g,Gm.refl _ _ _,hlp⟩;rintro n a1 w1 ⟨st1,g1,hh,hxt,hkp,hlp1⟩;cases hlp1 with
  |stop _ _ _ hr hne=>
   refine wp_mono (ih dcc h1 st1 e st' hr a1 w1 g1 hh) ?_;rintro e' a' w' hp;have hp':=hp.trans hxt hkp;obtain⟨rfl,_⟩:=hp;cases e with
   |normal=>exact absurd rfl hne
   |ret=>exact hp'
   |exit i=>exact hp'
  |more n' _ st2 _ _ hr hlp2=>
   refine wp_mono (ih dcc h1 st1 .normal st2 hr a1 w1 g1 hh) ?_;rintro e' a' w' ⟨rfl,g',hh',hxt',hkp'⟩;exact⟨n',Nat.lt_succ_self _,st2,g',hh',hxt.trans hxt',hkp.trans hkp',hlp2⟩
 |_=>
  intro dc htr;simp[B7]at htr
end
def calm_flat{xs:List D}(h:∀d∈xs,d.calm=true):∀x∈flat xs,x.calm=true:=by
 induction xs with
 |nil=>intro x hx;cases hx
 |cons d r ih=>
  intro x hx;simp only[flat,List.mem_append]at hx;rcases hx with hx|hx
  ·exact calm_cells (h d (QL ..)) x hx
  ·exact ih (λd hd=>h d (Qz _ hd)) x hx
def calm_agg{cs:List D}(h:(D.agg cs).calm=true):∀x∈cs,x.calm=true:=calm_cells h
def Rep.calm_to{w w':World}{g g':Gh}{d:D}{v:Value}(h:Rep w g d v)(hc:d.calm=true)(hcell:∀p:Addr,p.off<g.G p.block->w'.cell? p=w.cell? p)(hG:∀b,g.G b<=g'.G b):Rep w' g' d v:=by
 induction h with
 |junk v=>exact .junk v
 |bool b=>exact .bool b
 |int k n=>exact .int k n
 |str s=>exact .str s
 |nils t=>exact .nils t
 |slice t xs a n c sz vv h1 h2 h3 h4 h5 h6 h7 h8 h9 ih=>
  have ht:t=[]:=by simpa[D.calm,D.calm1]using hc
  subst ht;refine .slice [] xs a n c sz vv h1 h2 h3 (λj hj=>?_) h5 (λj d hd=>ih j d hd (calm_flat h9 d (Qi hd))) (λh=>Q_ (h7 h) (hG _)) (λh=>absurd rfl h) h9;rw[hcell _ (by rw[DN,Gg];have:=h7 (by omega);omega)];exact h4 j hj
 |ptr i o b h1=>simp[D.calm,D.calm1]at hc
 |row i n c b h0 h1=>simp[D.calm,D.calm1]at hc
 |eptr ds a vv h1 h2 h3 h4 h5=>simp[D.calm,D.calm1]at hc
 |nilp=>exact .nilp
 |agg ds vs h1 h2 h3 ih=>exact .agg ds vs h1 h2 (λj d v hd hv=>ih j d v hd hv (calm_agg hc d (Qi hd)))
 |tup ds vs h1 h2 ih=>simp[D.calm,D.calm1]at hc
 |iface t d v h1 h2 ih=>exact .iface t d v h1 (ih h1)
 |nili=>exact .nili
 |fn f ds vs h1 h2 ih=>
  have:ds=[]:=by simpa[D.calm,D.calm1]using hc
  subst this;exact .fn f [] vs h1 (by simp)
 |nilf=>exact .nilf
 |nilm=>exact .nilm
 |itp i b h1=>simp[D.calm,D.calm1]at hc
def D.unR:D->D
 | .tup vs=> .tup (vs.map D.un)
 |d=>d.un
def D.calmR:D->Bool
 | .tup vs=>vs.all D.calm
 |d=>d.calm
def Rep.unR{w:World}{g:Gh}{d:D}{v:Value}(h:Rep w g d v):Rep w g d.unR v:=by
 cases d with
 |tup vs=>
  obtain⟨us,rfl,h1,h2⟩:=h.tup_inv;refine .tup _ us (by simp[h1]) (λj d v hd hv=>?_);rw[QO,Qf]at hd;obtain⟨d',hd',rfl⟩:=hd;exact(h2 j d' v hd' hv).un
 |_=>exact h.un
def Rep.calmR_to{w w':World}{g g':Gh}{d:D}{v:Value}(h:Rep w g d v)(hc:d.calmR=true)(hcell:∀p:Addr,p.off<g.G p.block->w'.cell? p=w.cell? p)(hG:∀b,g.G b<=g'.G b):Rep w' g' d v:=by
 cases d with
 |tup vs=>
  obtain⟨us,rfl,h1,h2⟩:=h.tup_inv;exact .tup _ us h1 (λj d v hd hv=>(h2 j d v hd hv).calm_to (Qr.1 hc d (Qi hd)) hcell hG)
 |_=>exact h.calm_to hc hcell hG
inductive RV where
 |t (n:Nat)
 |cell (k:Option Nat) (n:Nat)
def ldD(m:Mem)(k:Option Nat):D->Option D
 | .ptr i o=>match k with
  |none=>m i o
  |some n=>(Ah m i o n).map .agg
 |_=>none
def RV.of(s:Nat->D)(m:Mem):RV->Option D
 | .t n=>some (s n)
 | .cell k n=>ldD m k (s n)
def Fx(s:Nat->D)(m:Mem):List RV->Option (List D)
 |[]=>some []
 |r::l=>match r.of s m,Fx s m l with
  |some d,some ds=>some (d::ds)
  |_,_=>none
def Cn(rs:List RV)(s:Nat->D)(m:Mem):Option D:=
 match Fx s m rs with
 |some [d]=>some d
 |some ds=>some (.tup ds)
 |none=>none
def trRes(P:Program):List ResultVar->Option (List RV)
 |[]=>some []
 | .tmp t::r=>(trRes P r).map (.t t::·)
 | .cell a t::r=>match kOf P t,trRes P r with
  |some k,some l=>some (.cell k a::l)
  |_,_=>none
section
variable{P:Program}{B:Nat}{w0 w w':World}{m:Mem}{g:Gh}{s:Nat->D}{a:Act}
def rvRun(tmps:Array Value):ResultVar->Sem Value
 | .tmp t=>pure (tmps.getD t undef)
 | .cell a t=>do loadVar t (←asAddr (tmps.getD a undef))
def rvAll_sound(hi:InvM P B w0 m w g)(hs:Dz w g s a):∀{rvs:List ResultVar} {rs:List RV} {ds:List D},trRes P rvs=some rs->Fx s m rs=some ds->
  ∃vs:List Value,(rvs.mapM (m:=Sem) (rvRun a.tmps)).run P w= .ok vs w∧vs.length=ds.length∧∀(j:Nat) d v,ds[j]?=some d->vs[j]?=some v->Rep w g d v
 |[],rs,ds,h1,h2=>by
  simp only[trRes,Qb]at h1;subst h1;simp only[Fx,Qb]at h2;subst h2;exact⟨[],by simp,rfl,by simp⟩
 |x::r,rs,ds,h1,h2=>by
  have key:∃rv rs',rs=rv::rs'∧trRes P r=some rs'∧∀d,rv.of s m=some d->∃v,(rvRun a.tmps x).run P w= .ok v w∧Rep w g d v:=by
   cases x with
   |tmp t=>
    simp only[trRes,Qf]at h1;obtain⟨l,hl,rfl⟩:=h1;refine⟨.t t,l,rfl,hl,λd hd=>?_⟩;simp only[RV.of,Qb]at hd;subst hd;exact⟨_,rfl,hs t⟩
   |cell y t=>
    simp only[trRes]at h1;split at h1
    ·rename_i k l hk hl;simp only[Qb]at h1;subst h1;refine⟨.cell k y,l,rfl,hl,λd hd=>?_⟩;simp only[RV.of]at hd;unfold ldD at hd;split at hd
     ·rename_i i o e;have hr:=hs y;rw[e]at hr;obtain⟨b,e1,hb⟩:=hr.ptr_inv;split at hd
      ·obtain⟨v,c1,c2,c3⟩:=hi.cell hb hd;exact⟨v,by simp[rvRun,e1,asAddr,DH hk c1],c3⟩
      ·rename_i n;rw[Qf]at hd;obtain⟨ds,hds,rfl⟩:=hd;obtain⟨vs,c1,c2⟩:=hi.cells hb hds;have hl:=(BI hds).1;have:=D7 (P:=P) (w:=w) hk (ad:=⟨b,o,none⟩) (vs:=vs) (by rw[c1.1,hl]) (λj v hv=>by rw[Fj];exact c2 j v hv);exact⟨_,by simp[rvRun,e1,asAddr,this],Rep.aggOf c1⟩
     ·cases hd
    ·cases h1
  obtain⟨rv,rs',rfl,hl,hx⟩:=key;unfold Fx at h2;split at h2
  ·rename_i d ds' e1 e2;simp only[Qb]at h2;subst h2;obtain⟨v,q1,q2⟩:=hx d e1;obtain⟨vs,p1,p2,p3⟩:=rvAll_sound hi hs hl e2;refine⟨v::vs,?_,by simp[p2],λj d v hd hv=>?_⟩
   ·rw[List.mapM_cons];simp only[Sem.run_bind,q1,Result.andThen_ok,p1,Sem.run_pure]
   ·cases j with
    |zero=>simp only[Qn,Qb]at hd hv;subst hd hv;exact q2
    |succ j=>simp only[QB]at hd hv;exact p3 j d v hd hv
  ·cases h2
def resOf_sound{fn:Func}{rs:List RV}{d:D}(hi:InvM P B w0 m w g)(hs:Dz w g s a)(hr:trRes P fn.results.toList=some rs)(hd:Cn rs s m=some d):
  ∃v,(results fn a.tmps).run P w= .ok v w∧Rep w g d v:=by
 unfold Cn at hd;have run:∀ds,Fx s m rs=some ds->∃vs:List Value,(results fn a.tmps).run P w= .ok (if h:vs.toArray.size=1 then vs.toArray[0]else .tuple vs.toArray) w∧vs.length=ds.length∧∀(j:Nat) d v,ds[j]?=some d->vs[j]?=some v->Rep w g d v:=by
  intro ds hds;obtain⟨vs,p1,p2,p3⟩:=rvAll_sound hi hs hr hds;refine⟨vs,?_,p2,p3⟩;have hres:results fn a.tmps=(do
   let vs ←fn.results.mapM (rvRun a.tmps)
   pure (if h:vs.size=1 then vs[0]else .tuple vs)):=by
   unfold results;congr 1
  rw[hres];simp only[Sem.run_bind];rw[Array.mapM_eq_mapM_toList,Sem.run_map,p1];rfl
 split at hd
 ·rename_i d' e;simp only[Qb]at hd;subst hd;obtain⟨vs,p1,p2,p3⟩:=run _ e
  match vs,p2 with
  |[v],_=>exact⟨v,p1,p3 0 _ v rfl rfl⟩
 ·rename_i ds hne e;simp only[Qb]at hd;subst hd;obtain⟨vs,p1,p2,p3⟩:=run _ e;refine⟨.tuple vs.toArray,?_,.tup ds vs p2 p3⟩;rw[p1,dif_neg];intro h1
  match ds,hne,p2 with
  |[],_,p2=>simp at p2;subst p2;simp at h1
  |[x],hne,_=>exact hne x rfl
  |x::y::r,_,p2=>simp at p2 h1;omega
 ·cases hd
def InvM.less(h:InvM P B w0 m w g){m':Mem}(hle:∀i o d,m' i o=some d->m i o=some d):InvM P B w0 m' w g:=by
 refine⟨h.below,h.size,h.gz,h.old,λi b hi=>?_,h.inj,λi o d hm hn=>h.kind i o d (hle _ _ _ hm) hn,λi e hi=>h.tok i e (hle _ _ _ hi),λi1 i2 e1 e2 b y y' h1 h2 h3 h4=>h.tinj i1 i2 e1 e2 b y y' (hle _ _ _ h1) (hle _ _ _ h2) h3 h4,h.itr.to (λi s p e=>hle _ _ _ e) λi b s p _ _ _ e1 e2 e3=>⟨rfl,rfl,e2,e3⟩⟩;obtain⟨p,q,vs,T,hh,r⟩:=h.obj i b hi;exact⟨p,q,vs,T,hh,λo d hm=>r o d (hle _ _ _ hm)⟩
def Gh.glue(g:Gh)(w:World)(G':Nat->Nat):Gh:={g with G:=λb=>if b<w.heap.size then g.G b else G' b}
def Ext.glue{G':Nat->Nat}(hgz:∀b,w.heap.size<=b->g.G b=0)(hb:Below w.heap.size w w'):Ext w g w' (g.glue w G'):=by
 refine⟨λp hp=>?_,λb=>?_,λi b h=>h,rfl,λi x h=>h⟩
 ·by_cases hlt:p.block<w.heap.size
  ·exact hb.cell hlt
  ·rw[hgz _ (by omega)]at hp;omega
 ·simp only[Gh.glue];split
  ·exact Qo _
  ·rw[hgz b (by omega)];exact Qq _
def InvM.glue(h:InvM P B w0 m w g)(hb:Below w.heap.size w w'){G':Nat->Nat}(hG:∀b,w'.heap.size<=b->G' b=0):InvM P B w0 m w' (g.glue w G'):=by
 have x:=Ext.glue (G':=G') h.gz hb;refine⟨h.below.trans (hb.mono h.size),Q_ h.size hb.size,λb hbz=>?_,λb hlt=>by simp only[Gh.glue];rw[if_pos (Q1 hlt h.size)];exact h.old b hlt,λi b hi=>?_,h.inj,h.kind,λi e hi=>?_,h.tinj,h.itr.to (λ_ _ _ e=>e) λi b s p _ _ _ e1 e2 e3=>?_⟩
 rotate_right
 ·have hlt:b<w.heap.size:=(Qx.1 e1).1;exact⟨rfl,hb.block b hlt,by simp[Gh.glue,hlt,e2],e3⟩
 ·simp only[Gh.glue];rw[if_neg (by have:=hb.size;omega)];exact hG b hbz
 ·obtain⟨p,q,vs,T,hh,r⟩:=h.obj i b hi;have hlt:=h.lt hi;refine⟨p,by simp[Gh.glue,hlt,q],vs,T,(hb.block b hlt).trans hh,λo d hm=>?_⟩;obtain⟨v,r1,r2,r3⟩:=r o d hm;exact⟨v,r1,r2,r3.ext x⟩
 ·obtain⟨b,n,c,sz,cur,t1,t2,t3,t4,t5,t6,t7,t8,t9,t10⟩:=h.tok i e hi;have hlt:b<w.heap.size:=(Qx.1 t5).1;exact⟨b,n,c,sz,cur,t1,t2,t3,t4,(hb.block b hlt).trans t5,t6,t7,t8,by simp[Gh.glue,hlt,t9],t10⟩
end
structure Fn (P:Program) (f:FuncId) (N:Nat) (dc:DC) (rs:List RV):Prop where
 is:∃fn code,P.funcs[f]?=some fn∧fn.body=some code∧(fn.name== "runtime.NumGoroutine")=false∧fn.ntmps=N∧B7 P N code=some dc∧trRes P fn.results.toList=some rs
def Bx(ds:List D):Nat->D:=λt=>ds.getD t .junk
def Ac(F:List D->Option D):Summ where
 rd:=λ_ _=>[]
 ex:=λds _ _=>if(ds.map D.un).all D.calm=true then(F (ds.map D.un)).map λr=>(r,[])else none
def DO(rs:List RV)(R:D->Mem->Prop)(e:Ex)(st:St):Prop:=(e= .normal∨e= .ret)∧∃d,Cn rs st.s st.m=some d∧R d st.m
section
variable{P:Program}{S:Summs}{f:FuncId}{N:Nat}{dc:DC}{rs:List RV}
def FO{B:Nat}{w0 w:World}{g:Gh}{ns:Id}{m:Mem}{ds:List D}{vs:List Value}(hS:Summs.ok P S)(hf:Fn P f N dc rs)(hN:ds.length<=N)(hi:InvM P B w0 m w g)
  (hfresh:∀k i,(k::ns)<:+i->BO m g i) (hl:vs.length=ds.length) (hrep:∀(j:Nat) d v,ds[j]?=some d->vs[j]?=some v->Rep w g d v) {R:D->Mem->Prop}
  (hwp:dc.wp S ns (DO rs R) ⟨Bx ds,m,0⟩):
  Calls P f vs.toArray w λe w'=>∃v d m' g',e= .returned v∧InvM P B w0 m' w' g'∧Ext w g w' g'∧Gm ns m g m' g'∧Rep w' g' d v∧R d m':=by
 obtain⟨fn,code,h1,h2,h3,h4,h5,h6⟩:=hf.is;obtain⟨e,st',hev,hend,d,hd,hR⟩:=hwp;refine calls_of_wp h1 h2 ?_;rw[h4];have hst:Holds P B w0 N ns ⟨Bx ds,m,0⟩ {tmps:=vs.toArray++Array.replicate (N-vs.toArray.size) undef,defers:=[]} w g:=by
  refine⟨hi,λt=>?_,by simp;omega,rfl,λk i _ hs=>hfresh k i hs⟩;simp only[Bx];by_cases ht:t<ds.length
  ·have e1:ds.getD t .junk=ds[t]:=by simp[List.getD,ht]
   have e2:(vs.toArray++Array.replicate (N-vs.toArray.size) undef).getD t undef=vs[t]'(by omega):=by
    rw[Array.getD_eq_getD_getElem?,Array.getElem?_append_left (by simp;omega)];simp[hl,ht]
   rw[e1,e2];exact hrep t _ _ (Qd ht) (Qd _)
  ·have e1:ds.getD t .junk= .junk:=by simp[List.getD,Q8 (Nat.le_of_not_lt ht)]
   rw[e1];exact .junk _
 refine wp_mono (ev_sound hS code dc h5 _ e st' hev _ w g hst) ?_;rintro e' a' w' ⟨rfl,g',hh,hx,hk⟩;obtain⟨v,hv1,hv2⟩:=resOf_sound hh.inv hh.slots h6 hd;have hb:a'.defers=[]∧∃v,(results fn a'.tmps).run P w'= .ok v w'∧∃v' d m' g',Ending.returned v= .returned v'∧InvM P B w0 m' w' g'∧Ext w g w' g'∧Gm ns m g m' g'∧Rep w' g' d v'∧R d m':=
  ⟨hh.defers,v,hv1,v,d,st'.m,g',rfl,hh.inv,hx,hk,hv2,hR⟩
 rcases hend with rfl|rfl
 ·exact hb
 ·exact hb
def Ay(hS:Summs.ok P S)(hf:Fn P f N dc rs){F:List D->Option D}(hN:∀ds r,F ds=some r->ds.length<=N)
  (hF:∀ds r,F ds=some r->dc.wp S [] (DO rs λd _=>d.unR=r∧r.calmR=true) ⟨Bx ds,λ_ _=>none,0⟩):(Ac F).ok P f:=by
 obtain⟨fn,code,h1,h2,h3,h4,h5,h6⟩:=hf.is;refine⟨⟨fn,h1,by rw[h2];rfl,h3⟩,λds m m' fr _=>rfl,?_⟩;intro B w0 w m g fr ds vs r u hi hfresh hl hrep hex;simp only[Ac]at hex;split at hex
 ·rename_i hcalm;rw[Qf]at hex;obtain⟨r',hr,hex⟩:=hex;simp only[Qh]at hex;obtain⟨rfl,rfl⟩:=hex
  let g0:Gh:={G:=g.G,G0:=g.G,dl:=λ_=>none,tb:=λ_=>none}
  have hi0:InvM P w.heap.size w (λ_ _=>none) w g0:=
   ⟨Below.refl _ _,Qo _,hi.gz,λ_ _=>rfl,λi b h=>by simp[g0]at h,λi i' b h=>by simp[g0]at h,λi o d h=>by simp at h,λi e h=>by simp at h,λi i' e e' b x x' h=>by simp at h,λi s p h=>by simp at h,λi i' s p s' p' b x x' h=>by simp at h⟩
  have hrep0:∀(j:Nat) d v,(ds.map D.un)[j]?=some d->vs[j]?=some v->Rep w g0 d v:=by
   intro j d v hd hv;have hc:=Qr.1 hcalm d (Qi hd);rw[QO,Qf]at hd;obtain⟨d',hd',rfl⟩:=hd;exact(hrep j d' v hd' hv).un.calm_to hc (λ_ _=>rfl) (λ_=>Qo _)
  have hcalls:=FO (B:=w.heap.size) (w0:=w) (w:=w) (g:=g0) (ns:=[]) (m:=λ_ _=>none) (ds:=ds.map D.un) (vs:=vs) hS hf (hN _ _ hr) hi0 (λk i _=>⟨λ_=>rfl,rfl,rfl⟩) (by simpa using hl) hrep0 (hF _ _ hr);refine hcalls.mono ?_;rintro e w' ⟨v,d,m',g',rfl,hinv,hext,_,hrd,rfl,hcr⟩;have hGeq:∀b,(g.glue w g'.G).G b=g'.G b:=by
   intro b;simp only[Gh.glue];split
   ·rename_i hlt;rw[hinv.old b hlt,hext.G0]
   ·rfl
  refine⟨v,g.glue w g'.G,rfl,hi.glue hinv.below hinv.gz,Ext.glue hi.gz hinv.below,?_,λi hf _=>hf⟩;exact hrd.unR.calmR_to hcr (λ_ _=>rfl) (λb=>by rw[hGeq];exact Qo _)
 ·cases hex
def opn_ok(hS:Summs.ok P S)(hf:Fn P f N dc rs){q:Summ}(hloc:∀ds m m' fr,(∀l∈q.rd ds m,m l.1 l.2=m' l.1 l.2)->q.ex ds m fr=q.ex ds m' fr)
  (hq:∀ds m fr r u,q.ex ds m fr=some (r,u)->(∀k i o,(k::fr)<:+i->m i o=none)->ds.length<=N∧dc.wp S fr (DO rs λd m'=>d=r∧∀i o x,Upd.app m u i o=some x->m' i o=some x) ⟨Bx ds,m,0⟩):q.ok P f:=by
 obtain⟨fn,code,h1,h2,h3,h4,h5,h6⟩:=hf.is;refine⟨⟨fn,h1,by rw[h2];rfl,h3⟩,hloc,?_⟩;intro B w0 w m g fr ds vs r u hi hfresh hl hrep hex;have hfr:∀k i,(k::fr)<:+i->BO m g i:=λk i h=>hfresh i ((Qs k fr).trans h)
 obtain⟨hN,hwp⟩:=hq ds m fr r u hex (λk i o h=>(hfr k i h).1 o);have hcalls:=FO (ns:=fr) hS hf hN hi hfr hl hrep hwp;refine hcalls.mono ?_;rintro e w' ⟨v,d,m',g',rfl,hinv,hext,hkeep,hrd,rfl,hle⟩;refine⟨v,g',rfl,hinv.less hle,hext,hrd,λi hf hn=>?_⟩;obtain⟨k1,k2,k3⟩:=hkeep i hf hn;refine⟨λo=>?_,k2,k3⟩;cases hx:Upd.app m u i o with
 |none=>rfl
 |some x=>exact absurd (k1 o) (by rw[hle i o x hx];simp)
end
inductive Tag.{u} {α:Sort u} (a:α):Type
 |mk
def Ao(p K:Prop)(_:Tag K):Prop:=p∧K
def ifQ(p A B:Prop)(_:Tag (A,B)):Prop:=(p->A)∧(¬p->B)
def Got{α:Type}(o:Option α)(K:α->Prop)(_:Tag K):Prop:=∃x,o=some x∧K x
def Ao.intro{p K:Prop}{t:Tag K}(h:p)(k:K):Ao p K t:=⟨h,k⟩
def ifQ.intro{p A B:Prop}{t:Tag (A,B)}(h:p->A)(k:¬p->B):ifQ p A B t:=⟨h,k⟩
def Got.intro{α:Type}{o:Option α}{K:α->Prop}{t:Tag K}{x:α}(h:o=some x)(k:K x):Got o K t:=⟨x,h,k⟩
def Need_true{K:Prop}{t:Tag K}:Ao True K t=K:=by simp[Ao]
def ifQ_true{A B:Prop}{t:Tag (A,B)}:ifQ True A B t=A:=by simp[ifQ]
def ifQ_false{A B:Prop}{t:Tag (A,B)}:ifQ False A B t=B:=by simp[ifQ]
def A3{α:Type}{x:α}{K:α->Prop}{t:Tag K}:Got (some x) K t=K x:=by simp[Got]
def AV{α:Type}{K:α->Prop}{t:Tag K}:Got none K t=False:=by simp[Got]
def Co{α β:Type}{o:Option α}{f:α->β}{K:β->Prop}{t:Tag K}:Got (o.map f) K t=Got o (λx=>K (f x)) .mk:=by
 cases o<;>simp[Got]
def D9{α:Type}{p:Prop}[Decidable p]{o:Option α}{K:α->Prop}{t:Tag K}:Got (if p then o else none) K t=Ao p (Got o K .mk) .mk:=by
 by_cases h:p<;>simp[Got,Ao,h]
def Fh{α:Type}{p:Prop}[Decidable p]{x:α}{K:α->Prop}{t:Tag K}:Got (if p then some x else none) K t=Ao p (K x) .mk:=by
 by_cases h:p<;>simp[Got,Ao,h]
def Got_ite{α:Type}{p:Prop}[Decidable p]{o o':Option α}{K:α->Prop}{t:Tag K}:Got (if p then o else o') K t=ifQ p (Got o K .mk) (Got o' K .mk) .mk:=by
 by_cases h:p<;>simp[Got,ifQ,h]
def guardK:D->Bool->(A B:Prop)->Tag (A,B)->Prop
 | .bool b',b,A,B,_=>ifQ (b'=b) A B .mk
 | .tup [],_,_,B,_=>B
 |_,_,_,_,_=>False
def guardK_inv{d:D}{b:Bool}{A B:Prop}{t:Tag (A,B)}(h:guardK d b A B t):(∃b',d= .bool b'∧ifQ (b'=b) A B .mk)∨(d= .tup []∧B):=by
 cases d with
 |bool b'=>exact .inl ⟨b',rfl,h⟩
 |tup l=>cases l with
  |nil=>exact .inr ⟨rfl,h⟩
  |cons _ _=>exact h.elim
 |_=>exact h.elim
def guardK_tup{b:Bool}{A B:Prop}{t:Tag (A,B)}:guardK (.tup []) b A B t=B:=rfl
def guardK_bool{b' b:Bool}{A B:Prop}{t:Tag (A,B)}:guardK (.bool b') b A B t=ifQ (b'=b) A B .mk:=rfl
def Di(ops:List DOper)(j:Nat):Option Nat:=(ops[j]?).bind (·.dst)
def F8(s:Nat->D):Option Nat->D
 |some t=>s t
 |none=> .junk
def Ct(s:Nat->D)(t:Nat):F8 s (some t)=s t:=rfl
def AF(S:Summs)(s:Nat->D)(m:Mem)(fr:Id)(op:DOp)(K:D->Upd->Prop):Prop:=Got (AA S s m fr op) (λx=>K x.1 x.2) .mk
def Fz(S:Summs)(ns:Id)(c:Nat)(ops:List DOper):List DOper->Nat->(Nat->D)->Mem->(Nat->(Nat->D)->Mem->Prop)->Prop
 |[],k,s,m,K=>K k s m
 |⟨dst,op,_,none⟩::l,k,s,m,K=>AF S s m ((c+k)::ns) op λd u=>Fz S ns c ops l (k+1) (CM s dst d) (Upd.app m u) K
 |⟨dst,op,_,some (j,b)⟩::l,k,s,m,K=>guardK (F8 s (Di ops j)) b
   (AF S s m ((c+k)::ns) op λd u=>Fz S ns c ops l (k+1) (CM s dst d) (Upd.app m u) K)
   (Fz S ns c ops l (k+1) (CM s dst (.tup [])) m K) .mk
section
variable{S:Summs}{ns:Id}
def Ew{c:Nat}{ops:List DOper}{K:Nat->(Nat->D)->Mem->Prop}:∀(l:List DOper)(k:Nat)(s:Nat->D)(m:Mem),Fz S ns c ops l k s m K->∃s' m',D4 S ns c ops l k s m=some (s',m')∧K (k+l.length) s' m'
 |[],k,s,m,h=>⟨s,m,rfl,h⟩
 |⟨dst,op,af,none⟩::l,k,s,m,h=>by
  simp only[Fz,AF,Got]at h;obtain⟨⟨d,u⟩,he,h⟩:=h;obtain⟨s',m',h1,h2⟩:=Ew l _ _ _ h;refine⟨s',m',?_,by rw[Qg,show k+(l.length+1)=k+1+l.length by omega];exact h2⟩;simp only[D4,Bz,Bo,he];exact h1
 |⟨dst,op,af,some (j,b)⟩::l,k,s,m,h=>by
  simp only[Fz]at h;rcases guardK_inv h with ⟨b',e,h⟩|⟨e,h⟩
  rotate_left
  ·have hg:Bo ops s ⟨dst,op,af,some (j,b)⟩=some false:=by
    unfold Bo;simp only;unfold Di at e;cases ho:(ops[j]?).bind (·.dst)with
    |none=>rw[ho]at e;simp[F8]at e
    |some t=>rw[ho,Ct]at e;simp only[e]
   obtain⟨s',m',h1,h2⟩:=Ew l _ _ _ h;refine⟨s',m',?_,by rw[Qg,show k+(l.length+1)=k+1+l.length by omega];exact h2⟩;simp only[D4,Bz,hg];exact h1
  ·have hg:Bo ops s ⟨dst,op,af,some (j,b)⟩=some (b'==b):=by
    unfold Bo;simp only;unfold Di at e;cases ho:(ops[j]?).bind (·.dst)with
    |none=>rw[ho]at e;simp[F8]at e
    |some t=>rw[ho,Ct]at e;simp only[e]
   by_cases hb:b'=b
   ·have h:=h.1 hb;simp only[AF,Got]at h;obtain⟨⟨d,u⟩,he,h⟩:=h;obtain⟨s',m',h1,h2⟩:=Ew l _ _ _ h;refine⟨s',m',?_,by rw[Qg,show k+(l.length+1)=k+1+l.length by omega];exact h2⟩;simp only[D4,Bz,hg,hb,he,beq_self_eq_true];exact h1
   ·have h:=h.2 hb;obtain⟨s',m',h1,h2⟩:=Ew l _ _ _ h;refine⟨s',m',?_,by rw[Qg,show k+(l.length+1)=k+1+l.length by omega];exact h2⟩;have:(b'==b)=false:=by simpa using hb
    simp only[D4,Bz,hg,this];exact h1
def CN{c:Nat}{ops:List DOper}{K:Nat->(Nat->D)->Mem->Prop}:∀(l:List DOper)(k:Nat)(s:Nat->D)(m:Mem)(s':Nat->D)(m':Mem),D4 S ns c ops l k s m=some (s',m')->K (k+l.length) s' m'->Fz S ns c ops l k s m K
 |[],k,s,m,s',m',h,hk=>by
  simp only[D4,Qb,Qh]at h;obtain⟨rfl,rfl⟩:=h;exact hk
 |⟨dst,op,af,none⟩::l,k,s,m,s',m',h,hk=>by
  rw[Qg,show k+(l.length+1)=k+1+l.length by omega]at hk;simp only[D4,Bz,Bo]at h;simp only[Fz,AF];cases he:AA S s m ((c+k)::ns) op with
  |none=>rw[he]at h;cases h
  |some x=>rw[he]at h;exact⟨x,rfl,CN l _ _ _ _ _ h hk⟩
 |⟨dst,op,af,some (j,b)⟩::l,k,s,m,s',m',h,hk=>by
  rw[Qg,show k+(l.length+1)=k+1+l.length by omega]at hk;simp only[D4,Bz,Bo]at h;simp only[Fz];unfold Di;cases ho:(ops[j]?).bind (·.dst)with
  |none=>rw[ho]at h;cases h
  |some t=>
   rw[ho]at h;rw[Ct];simp only at h;cases hd:s t with
   |bool b'=>
    rw[hd]at h;simp only at h;rw[guardK_bool];refine⟨λhb=>?_,λhb=>?_⟩
    ·subst hb;simp only[beq_self_eq_true]at h;cases he:AA S s m ((c+k)::ns) op with
     |none=>rw[he]at h;cases h
     |some x=>rw[he]at h;exact⟨x,he,CN l _ _ _ _ _ h hk⟩
    ·have:(b'==b)=false:=by simpa using hb
     rw[this]at h;exact CN l _ _ _ _ _ h hk
   |tup l0=>
    rw[hd]at h;cases l0 with
    |nil=>exact CN l _ _ _ _ _ h hk
    |cons _ _=>cases h
   |_=>rw[hd]at h;cases h
def B4(S:Summs)(ns:Id)(c:Nat)(ops:List DOper):List DOper->Nat->(Nat->D)->Mem->(Nat->(Nat->D)->Mem->List Foot->Prop)->Prop
 |[],k,s,m,K=>K k s m []
 |⟨dst,op,_,none⟩::l,k,s,m,K=>AF S s m ((c+k)::ns) op λd u=>B4 S ns c ops l (k+1) (CM s dst d) (Upd.app m u) λk' s' m' f=>K k' s' m' ((rds S s m op,AM u)::f)
 |⟨dst,op,_,some (j,b)⟩::l,k,s,m,K=>guardK (F8 s (Di ops j)) b
   (AF S s m ((c+k)::ns) op λd u=>B4 S ns c ops l (k+1) (CM s dst d) (Upd.app m u) λk' s' m' f=>K k' s' m' ((rds S s m op,AM u)::f))
   (B4 S ns c ops l (k+1) (CM s dst (.tup [])) m λk' s' m' f=>K k' s' m' ((rds S s m op,[])::f)) .mk
def Dt{c:Nat}{ops:List DOper}:∀(l:List DOper)(k:Nat)(s:Nat->D)(m:Mem)(K:Nat->(Nat->D)->Mem->List Foot->Prop),B4 S ns c ops l k s m K->∃s' m' f,B3 S ns c ops l k s m=some (s',m',f)∧K (k+l.length) s' m' f
 |[],k,s,m,K,h=>⟨s,m,[],rfl,h⟩
 |⟨dst,op,af,none⟩::l,k,s,m,K,h=>by
  simp only[B4,AF,Got]at h;obtain⟨⟨d,u⟩,he,h⟩:=h;obtain⟨s',m',f,h1,h2⟩:=Dt l _ _ _ _ h;refine⟨s',m',_,?_,by rw[Qg,show k+(l.length+1)=k+1+l.length by omega];exact h2⟩;simp only[B3,Bz,Bo,he,h1]
 |⟨dst,op,af,some (j,b)⟩::l,k,s,m,K,h=>by
  simp only[B4]at h;rcases guardK_inv h with ⟨b',e,h⟩|⟨e,h⟩
  rotate_left
  ·have hg:Bo ops s ⟨dst,op,af,some (j,b)⟩=some false:=by
    unfold Bo;simp only;unfold Di at e;cases ho:(ops[j]?).bind (·.dst)with
    |none=>rw[ho]at e;simp[F8]at e
    |some t=>rw[ho,Ct]at e;simp only[e]
   obtain⟨s',m',f,h1,h2⟩:=Dt l _ _ _ _ h;refine⟨s',m',_,?_,by rw[Qg,show k+(l.length+1)=k+1+l.length by omega];exact h2⟩;simp only[B3,Bz,hg,Upd.app,h1];simp[AM]
  ·have hg:Bo ops s ⟨dst,op,af,some (j,b)⟩=some (b'==b):=by
    unfold Bo;simp only;unfold Di at e;cases ho:(ops[j]?).bind (·.dst)with
    |none=>rw[ho]at e;simp[F8]at e
    |some t=>rw[ho,Ct]at e;simp only[e]
   by_cases hb:b'=b
   ·have h:=h.1 hb;simp only[AF,Got]at h;obtain⟨⟨d,u⟩,he,h⟩:=h;obtain⟨s',m',f,h1,h2⟩:=Dt l _ _ _ _ h;refine⟨s',m',_,?_,by rw[Qg,show k+(l.length+1)=k+1+l.length by omega];exact h2⟩;simp only[B3,Bz,hg,hb,he,beq_self_eq_true,h1]
   ·have h:=h.2 hb;obtain⟨s',m',f,h1,h2⟩:=Dt l _ _ _ _ h;refine⟨s',m',_,?_,by rw[Qg,show k+(l.length+1)=k+1+l.length by omega];exact h2⟩;have:(b'==b)=false:=by simpa using hb
    simp only[B3,Bz,hg,this,Upd.app,h1];simp[AM]
def Ce{c:Nat}{ops:List DOper}:∀(l:List DOper)(k:Nat)(s:Nat->D)(m:Mem)(K:Nat->(Nat->D)->Mem->List Foot->Prop)(s':Nat->D)(m':Mem)(f:List Foot),B3 S ns c ops l k s m=some (s',m',f)->K (k+l.length) s' m' f->B4 S ns c ops l k s m K
 |[],k,s,m,K,s',m',f,h,hk=>by
  simp only[B3,Qb,Qh]at h;obtain⟨rfl,rfl,rfl⟩:=h;exact hk
 |⟨dst,op,af,none⟩::l,k,s,m,K,s',m',f,h,hk=>by
  rw[Qg,show k+(l.length+1)=k+1+l.length by omega]at hk;simp only[B3,Bz,Bo]at h;simp only[B4,AF];cases he:AA S s m ((c+k)::ns) op with
  |none=>rw[he]at h;cases h
  |some x=>
   rw[he]at h;obtain⟨d,u⟩:=x;simp only at h;split at h
   ·rename_i s1 m1 f1 e;simp only[Qb,Qh]at h;obtain⟨rfl,rfl,rfl⟩:=h;exact⟨_,rfl,Ce l _ _ _ _ _ _ _ e hk⟩
   ·cases h
 |⟨dst,op,af,some (j,b)⟩::l,k,s,m,K,s',m',f,h,hk=>by
  rw[Qg,show k+(l.length+1)=k+1+l.length by omega]at hk;simp only[B3,Bz,Bo]at h;simp only[B4];unfold Di;cases ho:(ops[j]?).bind (·.dst)with
  |none=>rw[ho]at h;cases h
  |some t=>
   rw[ho]at h;rw[Ct];simp only at h;cases hd:s t with
   |bool b'=>
    rw[hd]at h;simp only at h;rw[guardK_bool];refine⟨λhb=>?_,λhb=>?_⟩
    ·subst hb;simp only[beq_self_eq_true]at h;cases he:AA S s m ((c+k)::ns) op with
     |none=>rw[he]at h;cases h
     |some x=>
      rw[he]at h;obtain⟨d,u⟩:=x;simp only at h;split at h
      ·rename_i s1 m1 f1 e;simp only[Qb,Qh]at h;obtain⟨rfl,rfl,rfl⟩:=h;exact⟨_,he,Ce l _ _ _ _ _ _ _ e hk⟩
      ·cases h
    ·have:(b'==b)=false:=by simpa using hb
     rw[this]at h;simp only[Upd.app]at h;split at h
     ·rename_i s1 m1 f1 e;simp only[Qb,Qh]at h;obtain⟨rfl,rfl,rfl⟩:=h;exact Ce l _ _ _ _ _ _ _ e hk
     ·cases h
   |tup l0=>
    rw[hd]at h;cases l0 with
    |nil=>
     simp only[Upd.app]at h;split at h
     ·rename_i s1 m1 f1 e;simp only[Qb,Qh]at h;obtain⟨rfl,rfl,rfl⟩:=h;exact Ce l _ _ _ _ _ _ _ e hk
     ·cases h
    |cons _ _=>cases h
   |_=>rw[hd]at h;cases h
def seqQ(S:Summs)(ns:Id)(b:DC)(Q:Ex->St->Prop):Ex->St->Prop
 | .normal,st=>b.wp S ns Q st
 |e,st=>Q e st
def blockQ(i:Nat)(Q:Ex->St->Prop):Ex->St->Prop
 | .exit j,st=>if j=i then Q .normal st else Q (.exit j) st
 |e,st=>Q e st
def condQ:D->(A B:Prop)->Tag (A,B)->Prop
 | .bool b,A,B,_=>ifQ (b=true) A B .mk
 |_,_,_,_=>False
def condQ_bool{b:Bool}{A B:Prop}{t:Tag (A,B)}:condQ (.bool b) A B t=ifQ (b=true) A B .mk:=rfl
variable{Q:Ex->St->Prop}{st:St}
def seqQ_normal{b:DC}:seqQ S ns b Q .normal st=b.wp S ns Q st:=rfl
def seqQ_ret{b:DC}:seqQ S ns b Q .ret st=Q .ret st:=rfl
def seqQ_exit{b:DC}{i:Nat}:seqQ S ns b Q (.exit i) st=Q (.exit i) st:=rfl
def blockQ_normal{i:Nat}:blockQ i Q .normal st=Q .normal st:=rfl
def blockQ_ret{i:Nat}:blockQ i Q .ret st=Q .ret st:=rfl
def D5{i j:Nat}:blockQ i Q (.exit j) st=if j=i then Q .normal st else Q (.exit j) st:=rfl
def wp_skip':DC.skip.wp S ns Q st=Q .normal st:=by
 apply propext;exact⟨λ⟨e,st',⟨h1,h2⟩,h⟩=>by subst h1 h2;exact h,λh=>⟨_,_,⟨rfl,rfl⟩,h⟩⟩
def wp_ret':DC.ret.wp S ns Q st=Q .ret st:=by
 apply propext;exact⟨λ⟨e,st',⟨h1,h2⟩,h⟩=>by subst h1 h2;exact h,λh=>⟨_,_,⟨rfl,rfl⟩,h⟩⟩
def wp_exit'{i:Nat}:(DC.exit i).wp S ns Q st=Q (.exit i) st:=by
 apply propext;exact⟨λ⟨e,st',⟨h1,h2⟩,h⟩=>by subst h1 h2;exact h,λh=>⟨_,_,⟨rfl,rfl⟩,h⟩⟩
def wp_seq'{a b:DC}:(DC.seq a b).wp S ns Q st=a.wp S ns (seqQ S ns b Q) st:=by
 apply propext;constructor
 ·rintro⟨e,st',⟨e1,st1,h1,h2⟩,h⟩;refine⟨e1,st1,h1,?_⟩;rcases h2 with ⟨rfl,h2⟩|⟨hn,rfl,rfl⟩
  ·exact⟨e,st',h2,h⟩
  ·cases e with
   |normal=>exact absurd rfl hn
   |ret=>exact h
   |exit i=>exact h
 ·rintro⟨e1,st1,h1,h⟩;cases e1 with
  |normal=>obtain⟨e,st',h2,h⟩:=h;exact⟨e,st',⟨.normal,st1,h1,.inl ⟨rfl,h2⟩⟩,h⟩
  |ret=>exact⟨.ret,st1,⟨.ret,st1,h1,.inr ⟨by simp,rfl,rfl⟩⟩,h⟩
  |exit i=>exact⟨.exit i,st1,⟨.exit i,st1,h1,.inr ⟨by simp,rfl,rfl⟩⟩,h⟩
def wp_block'{i:Nat}{a:DC}(h:a.wp S ns (blockQ i Q) st):(DC.block i a).wp S ns Q st:=by
 obtain⟨e,st',h1,h⟩:=h;cases e with
 |normal=>exact⟨_,st',⟨.normal,h1,.inr ⟨by simp,rfl⟩⟩,h⟩
 |ret=>exact⟨_,st',⟨.ret,h1,.inr ⟨by simp,rfl⟩⟩,h⟩
 |exit j=>
  by_cases hj:j=i
  ·rw[D5,if_pos hj]at h;exact⟨_,st',⟨.exit j,h1,.inl ⟨by rw[hj],rfl⟩⟩,h⟩
  ·rw[D5,if_neg hj]at h;exact⟨_,st',⟨.exit j,h1,.inr ⟨by simp[hj],rfl⟩⟩,h⟩
def wp_cond'{c:Arg}{a b:DC}(h:condQ (c.ev st.s) (a.wp S ns Q st) (b.wp S ns Q st) .mk):(DC.cond c a b).wp S ns Q st:=by
 unfold condQ at h;split at h
 ·rename_i t e;cases t with
  |true=>obtain⟨e',st',h1,h2⟩:=h.1 rfl;exact⟨e',st',.inl ⟨e,h1⟩,h2⟩
  |false=>obtain⟨e',st',h1,h2⟩:=h.2 (by simp);exact⟨e',st',.inr ⟨e,h1⟩,h2⟩
 ·exact h.elim
def wp_row'{ops:List DOper}(h:Fz S ns st.c ops ops 0 st.s st.m λk s m=>Q .normal ⟨s,m,st.c+k⟩):(DC.row ops).wp S ns Q st:=by
 obtain⟨s',m',h1,h2⟩:=Ew _ _ _ _ h;rw[QA]at h2;exact⟨.normal,_,⟨rfl,h1,rfl⟩,h2⟩
def wp_drawn'{ops:List DOper}{ps:List (Nat×Nat)}(h:B4 S ns st.c ops ops 0 st.s st.m λk s m f=>Ao (feetOk f ps) (Q .normal ⟨s,m,st.c+k⟩) .mk):(DC.drawn ops ps).wp S ns Q st:=by
 obtain⟨s',m',f,h1,h2⟩:=Dt _ _ _ _ _ h;rw[QA]at h2;exact⟨.normal,_,⟨rfl,⟨f,h1,h2.1⟩,rfl⟩,h2.2⟩
def wp_block_eq{i:Nat}{a:DC}:(DC.block i a).wp S ns Q st=a.wp S ns (blockQ i Q) st:=by
 refine propext ⟨?_,wp_block'⟩;rintro⟨e,st',⟨e1,h1,h2⟩,h⟩;refine⟨e1,st',h1,?_⟩;rcases h2 with ⟨rfl,rfl⟩|⟨hn,rfl⟩
 ·rw[D5,if_pos rfl];exact h
 ·cases e with
  |normal=>exact h
  |ret=>exact h
  |exit j=>rw[D5,if_neg (λx=>hn (by rw[x]))];exact h
def wp_cond_eq{c:Arg}{a b:DC}:(DC.cond c a b).wp S ns Q st=condQ (c.ev st.s) (a.wp S ns Q st) (b.wp S ns Q st) .mk:=by
 refine propext ⟨?_,wp_cond'⟩;rintro⟨e,st',h1,h2⟩;rcases h1 with ⟨h0,h1⟩|⟨h0,h1⟩
 ·rw[h0,condQ_bool];exact Qa (λ_=>⟨e,st',h1,h2⟩) (λx=>absurd rfl x)
 ·rw[h0,condQ_bool];exact Qa (λ(x:false=true)=>absurd x (by decide)) (λ_=>⟨e,st',h1,h2⟩)
def wp_row_eq{ops:List DOper}:(DC.row ops).wp S ns Q st=Fz S ns st.c ops ops 0 st.s st.m λk s m=>Q .normal ⟨s,m,st.c+k⟩:=by
 refine propext ⟨?_,wp_row'⟩;rintro⟨e,⟨s',m',c'⟩,⟨rfl,h1,h2⟩,h3⟩;refine CN _ _ _ _ _ _ h1 ?_;simp only at h2;rw[QA,←h2];exact h3
def wp_drawn_eq{ops:List DOper}{ps:List (Nat×Nat)}:(DC.drawn ops ps).wp S ns Q st=B4 S ns st.c ops ops 0 st.s st.m λk s m f=>Ao (feetOk f ps) (Q .normal ⟨s,m,st.c+k⟩) .mk:=by
 refine propext ⟨?_,wp_drawn'⟩;rintro⟨e,⟨s',m',c'⟩,⟨rfl,⟨f,h1,hf⟩,h2⟩,h3⟩;refine Ce _ _ _ _ _ _ _ _ h1 ⟨hf,?_⟩;simp only at h2;rw[QA,←h2];exact h3
def loopQ(S:Summs)(ns:Id)(c:DC)(Q:Ex->St->Prop):Ex->St->Prop
 | .normal,st=>(DC.loop c).wp S ns Q st
 |e,st=>Q e st
def A8(S:Summs)(ns:Id)(c:DC)(Q:Ex->St->Prop)(st:St)(_:Tag (S,ns,c,Q,st)):Prop:=(DC.loop c).wp S ns Q st
def wp_loop_eq{c:DC}:(DC.loop c).wp S ns Q st=A8 S ns c Q st .mk:=rfl
def loopQ_normal{c:DC}:loopQ S ns c Q .normal st=(DC.loop c).wp S ns Q st:=rfl
def loopQ_ret{c:DC}:loopQ S ns c Q .ret st=Q .ret st:=rfl
def loopQ_exit{c:DC}{i:Nat}:loopQ S ns c Q (.exit i) st=Q (.exit i) st:=rfl
def wp_loop'{c:DC}(h:c.wp S ns (loopQ S ns c Q) st):(DC.loop c).wp S ns Q st:=by
 obtain⟨e,st',h1,h⟩:=h;cases e with
 |normal=>obtain⟨e2,st2,⟨n,h2⟩,h⟩:=h;exact⟨e2,st2,⟨n+1,.more n _ _ _ _ h1 h2⟩,h⟩
 |ret=>exact⟨.ret,st',⟨0,.stop _ _ _ h1 (by simp)⟩,h⟩
 |exit i=>exact⟨.exit i,st',⟨0,.stop _ _ _ h1 (by simp)⟩,h⟩
def wp_mono'{dc:DC}{Q':Ex->St->Prop}(h:dc.wp S ns Q st)(hq:∀e st',Q e st'->Q' e st'):dc.wp S ns Q' st:=by
 obtain⟨e,st',h1,h2⟩:=h;exact⟨e,st',h1,hq _ _ h2⟩
end
def setS_some{s:Nat->D}{t t':Nat}{d:D}:CM s (some t) d t'=if t'=t then d else s t':=rfl
def setS_none{s:Nat->D}{d:D}:CM s none d=s:=rfl
def Arg.ev_t{s:Nat->D}{n:Nat}:(Arg.t n).ev s=s n:=rfl
def Arg.ev_c{s:Nat->D}{d:D}:(Arg.c d).ev s=d:=rfl
section
variable{S:Summs}{s:Nat->D}{m:Mem}{fr:Id}{K:D->Upd->Prop}
def x_mv{x:Arg}:AF S s m fr (.mv x) K=Got (some (x.ev s)) (λd=>K d []) .mk:=by simp[AF,AA,Got]
def pickK:D->D->D->(K:D->Upd->Prop)->Tag K->Prop
 | .bool t,a,b,K,_=>ifQ (t=true) (K a []) (K b []) .mk
 |_,_,_,_,_=>False
def pickK_bool{t:Bool}{a b:D}{g:Tag K}:pickK (.bool t) a b K g=ifQ (t=true) (K a []) (K b []) .mk:=rfl
def x_pick{c a b:Arg}:AF S s m fr (.pick c a b) K=pickK (c.ev s) (a.ev s) (b.ev s) K .mk:=by
 simp only[AF,AA];unfold pickK;cases c.ev s<;>simp only[AV];rename_i t;cases t<;>simp[Got,ifQ]
def x_alloc{zs:List D}:AF S s m fr (.alloc zs) K=Got (some fr) (λfr=>K (.ptr fr 0) [(fr,0,zs)]) .mk:=by simp[AF,AA,Got]
def x_box{x:Arg}:AF S s m fr (.box x) K=Got (some fr) (λfr=>Got (some (x.ev s)) (λd=>Ao (d.data=true) (K (.ptr fr 0) [(fr,0,d.cells)]) .mk) .mk) .mk:=by
 simp only[AF,AA];rw[D9,A3,A3,A3]
def x_build{zs:List D}{parts:List (Nat×Nat×Arg)}:AF S s m fr (.build zs parts) K=Got (BK zs (parts.map λp=>(p.1,p.2.1,p.2.2.ev s))) (λcs=>K (.agg cs) []) .mk:=by
 simp only[AF,AA];rw[Co]
def x_bslice{e sz:Nat}{parts:List Arg}:AF S s m fr (.bslice e sz parts) K=Got (some fr) (λfr=>Got (some (parts.map λp=>p.ev s)) (λds=>Ao ((ds.all λd=>d.data&&d.cells.length==sz&&d.un.calm)=true) (K (.slice false fr (ds.map D.un)) [(fr,0,[.tok (e+1)])]) .mk) .mk) .mk:=by
 simp only[AF,AA];rw[D9,A3,A3,A3,List.all_map,Q0];rfl
def loadK:Option Nat->D->(m:Mem)->(K:D->Upd->Prop)->Tag (m,K)->Prop
 |none,.ptr i o,m,K,_=>Got (m i o) (λd=>K d []) .mk
 |some n,.ptr i o,m,K,_=>Got (Ah m i o n) (λds=>K (.agg ds) []) .mk
 |none,.eptr ds,m,K,_=>Got ds.head? (λd=>K d []) .mk
 |some n,.eptr ds,m,K,_=>Ao (n<=ds.length) (K (.agg (ds.take n)) []) .mk
 |_,_,_,_,_=>False
def loadK_ptr{i:Id}{o:Nat}{g:Tag (m,K)}:loadK none (.ptr i o) m K g=Got (m i o) (λd=>K d []) .mk:=rfl
def loadK_ptrs{i:Id}{o n:Nat}{g:Tag (m,K)}:loadK (some n) (.ptr i o) m K g=Got (Ah m i o n) (λds=>K (.agg ds) []) .mk:=rfl
def loadK_eptr{ds:List D}{g:Tag (m,K)}:loadK none (.eptr ds) m K g=Got ds.head? (λd=>K d []) .mk:=rfl
def loadK_eptrs{ds:List D}{n:Nat}{g:Tag (m,K)}:loadK (some n) (.eptr ds) m K g=Ao (n<=ds.length) (K (.agg (ds.take n)) []) .mk:=rfl
def x_load{k:Option Nat}{x:Arg}:AF S s m fr (.load k x) K=loadK k (x.ev s) m K .mk:=by
 simp only[AF,AA];unfold loadK;cases x.ev s<;>cases k<;>simp only[AV,Co,Fh]
def storeK(n:Nat):D->D->(m:Mem)->(K:D->Upd->Prop)->Tag (m,K)->Prop
 | .ptr i o,d,m,K,_=>Ao (d.data=true∧d.cells.length=n∧(Ah m i o n).isSome=true) (K .junk [(i,o,d.cells)]) .mk
 |_,_,_,_,_=>False
def storeK_ptr{n:Nat}{i:Id}{o:Nat}{d:D}{g:Tag (m,K)}:storeK n (.ptr i o) d m K g=Ao (d.data=true∧d.cells.length=n∧(Ah m i o n).isSome=true) (K .junk [(i,o,d.cells)]) .mk:=rfl
def x_store{n:Nat}{x v:Arg}:AF S s m fr (.store n x v) K=storeK n (x.ev s) (v.ev s) m K .mk:=by
 simp only[AF,AA];unfold storeK;cases x.ev s<;>simp only[AV,Fh]
def nilchkK:D->(K:D->Upd->Prop)->Tag K->Prop
 | .ptr i o,K,_=>K (.ptr i o) []
 | .eptr ds,K,_=>K (.eptr ds) []
 | .fn f cs,K,_=>K (.fn f cs) []
 |_,_,_=>False
def nilchkK_ptr{i:Id}{o:Nat}{g:Tag K}:nilchkK (.ptr i o) K g=K (.ptr i o) []:=rfl
def nilchkK_eptr{ds:List D}{g:Tag K}:nilchkK (.eptr ds) K g=K (.eptr ds) []:=rfl
def nilchkK_fn{f:FuncId}{cs:List D}{g:Tag K}:nilchkK (.fn f cs) K g=K (.fn f cs) []:=rfl
def x_nilchk{x:Arg}:AF S s m fr (.nilchk x) K=nilchkK (x.ev s) K .mk:=by
 simp only[AF,AA];unfold nilchkK;cases x.ev s<;>simp[AV,A3]
def rangeK(fr:Id):D->(K:D->Upd->Prop)->Tag K->Prop
 | .str b,K,_=>K (.itp fr) [(fr,1,[.it b 0])]
 |_,_,_=>False
def rangeK_str{b:List UInt8}{g:Tag K}:rangeK fr (.str b) K g=K (.itp fr) [(fr,1,[.it b 0])]:=rfl
def x_range{x:Arg}:AF S s m fr (.range x) K=rangeK fr (x.ev s) K .mk:=by
 simp only[AF,AA];unfold rangeK;cases x.ev s<;>simp[AV,A3]
def nextI(i:Id):D->(K:D->Upd->Prop)->Tag K->Prop
 | .it b pos,K,_=>ifQ (pos<b.length) (K (.tup [.bool true,.int .i64 (pos:Nat),.int .i32 (Utf8.decode ⟨b.toArray⟩ pos).1]) [(i,1,[.it b (pos+(Utf8.decode ⟨b.toArray⟩ pos).2)])]) (K (.tup [.bool false]) []) .mk
 |_,_,_=>False
def nextI_it{i:Id}{b:List UInt8}{pos:Nat}{g:Tag K}:nextI i (.it b pos) K g=ifQ (pos<b.length) (K (.tup [.bool true,.int .i64 (pos:Nat),.int .i32 (Utf8.decode ⟨b.toArray⟩ pos).1]) [(i,1,[.it b (pos+(Utf8.decode ⟨b.toArray⟩ pos).2)])]) (K (.tup [.bool false]) []) .mk:=rfl
def nextK:D->(m:Mem)->(K:D->Upd->Prop)->Tag (m,K)->Prop
 | .itp i,m,K,_=>Got (m i 1) (λx=>nextI i x K .mk) .mk
 |_,_,_,_=>False
def nextK_itp{i:Id}{g:Tag (m,K)}:nextK (.itp i) m K g=Got (m i 1) (λx=>nextI i x K .mk) .mk:=rfl
def x_next{x:Arg}:AF S s m fr (.next x) K=nextK (x.ev s) m K .mk:=by
 simp only[AF,AA];unfold nextK;cases x.ev s<;>try (simp only[AV];done)
 rename_i i;simp only;cases m i 1 with
 |none=>simp only[AV]
 |some d=>
  simp only[A3];unfold nextI;cases d<;>simp only[AV];rename_i b pos;rw[Got_ite,A3,A3]
def x_bin{op:BinOp}{x y:Arg}:AF S s m fr (.bin op x y) K=Got (AY op (x.ev s) (y.ev s)) (λd=>K d []) .mk:=by simp only[AF,AA];rw[Co]
def x_un{op:UnOp}{x:Arg}:AF S s m fr (.un op x) K=Got (evUn op (x.ev s)) (λd=>K d []) .mk:=by simp only[AF,AA];rw[Co]
def beqV(ne:Bool):D->D->Option D
 | .bool a,.bool b=>some (.bool ((a==b)!=ne))
 |_,_=>none
def beqV_f{a b:Bool}:beqV false (.bool a) (.bool b)=some (.bool (decide (a=b))):=by cases a<;>cases b<;>rfl
def beqV_t{a b:Bool}:beqV true (.bool a) (.bool b)=some (.bool (decide (a≠b))):=by cases a<;>cases b<;>rfl
def x_beq{ne:Bool}{x y:Arg}:AF S s m fr (.beq ne x y) K=Got (beqV ne (x.ev s) (y.ev s)) (λd=>K d []) .mk:=by
 simp only[AF,AA];unfold beqV;cases x.ev s<;>cases y.ev s<;>simp[AV,A3]
def seqV(ne:Bool)(offs:List (Nat×Nat)):D->D->Option D
 | .agg xs,.agg ys=>(Bn xs ys offs).map λb=> .bool (b !=ne)
 |_,_=>none
def seqV_agg{ne:Bool}{offs:List (Nat×Nat)}{xs ys:List D}:seqV ne offs (.agg xs) (.agg ys)=(Bn xs ys offs).map λb=> .bool (b !=ne):=rfl
def x_seq{ne:Bool}{offs:List (Nat×Nat)}{x y:Arg}:AF S s m fr (.seq ne offs x y) K=Got (seqV ne offs (x.ev s) (y.ev s)) (λd=>K d []) .mk:=by
 simp only[AF,AA];unfold seqV;cases x.ev s<;>cases y.ev s<;>simp[AV,Co]
def x_nileq{ne:Bool}{k:Nat}{x y:Arg}:AF S s m fr (.nileq ne k x y) K=Got (nilEq k (x.ev s) (y.ev s)) (λb=>K (.bool (b !=ne)) []) .mk:=by simp only[AF,AA];rw[Co]
def convV(k:IntKind):D->Option D
 | .int _ n=>some (.int k (k.wrap n))
 |_=>none
def convV_int{k k':IntKind}{n:Int}:convV k (.int k' n)=some (.int k (k.wrap n)):=rfl
def x_conv{k:IntKind}{x:Arg}:AF S s m fr (.conv k x) K=Got (convV k (x.ev s)) (λd=>K d []) .mk:=by
 simp only[AF,AA];unfold convV;cases x.ev s<;>simp[AV,A3]
def s2sV:D->Option D
 | .str b=>some (.str b)
 |_=>none
def s2sV_str{b:List UInt8}:s2sV (.str b)=some (.str b):=rfl
def x_s2s{x:Arg}:AF S s m fr (.s2s x) K=Got (s2sV (x.ev s)) (λd=>K d []) .mk:=by
 simp only[AF,AA];unfold s2sV;cases x.ev s<;>simp[AV,A3]
def s2bV:D->Option D
 | .str b=>some (.slice false [] (AD b))
 |_=>none
def s2bV_str{b:List UInt8}:s2bV (.str b)=some (.slice false [] (AD b)):=rfl
def x_s2b{x:Arg}:AF S s m fr (.s2b x) K=Got (s2bV (x.ev s)) (λd=>K d []) .mk:=by
 simp only[AF,AA];unfold s2bV;cases x.ev s<;>simp[AV,A3]
def b2sV:D->Option D
 | .slice _ _ xs=>(Bw xs).map .str
 |_=>none
def b2sV_slice{nl:Bool}{t:Id}{xs:List D}:b2sV (.slice nl t xs)=(Bw xs).map .str:=rfl
def x_b2s{x:Arg}:AF S s m fr (.b2s x) K=Got (b2sV (x.ev s)) (λd=>K d []) .mk:=by
 simp only[AF,AA];unfold b2sV;cases x.ev s<;>simp[AV,Co]
def faddrV(off:Nat):D->Option D
 | .ptr i o=>some (.ptr i (o+off))
 | .eptr ds=>if off<=ds.length then some (.eptr (ds.drop off))else none
 |_=>none
def faddrV_ptr{off:Nat}{i:Id}{o:Nat}:faddrV off (.ptr i o)=some (.ptr i (o+off)):=rfl
def faddrV_eptr{off:Nat}{ds:List D}:faddrV off (.eptr ds)=if off<=ds.length then some (.eptr (ds.drop off))else none:=rfl
def x_faddr{off:Nat}{x:Arg}:AF S s m fr (.faddr off x) K=Got (faddrV off (x.ev s)) (λd=>K d []) .mk:=by
 simp only[AF,AA];unfold faddrV;cases x.ev s<;>simp only[AV,Fh,A3]
def fieldV(off:Nat):Option Nat->D->Option D
 |none,.agg cs=>cs[off]?
 |some n,.agg cs=>if off+n<=cs.length then some (.agg ((cs.drop off).take n))else none
 |_,_=>none
def fieldV_leaf{off:Nat}{cs:List D}:fieldV off none (.agg cs)=cs[off]?:=rfl
def fieldV_agg{off n:Nat}{cs:List D}:fieldV off (some n) (.agg cs)=if off+n<=cs.length then some (.agg ((cs.drop off).take n))else none:=rfl
def x_field{k:Option Nat}{off:Nat}{x:Arg}:AF S s m fr (.field k off x) K=Got (fieldV off k (x.ev s)) (λd=>K d []) .mk:=by
 simp only[AF,AA];unfold fieldV;cases x.ev s<;>cases k<;>simp only[AV,Co,Fh]
def iaddrK(sz:Nat):D->D->(K:D->Upd->Prop)->Tag K->Prop
 | .slice _ _ xs,.int _ n,K,_=>Ao (0<=n) (Got xs[n.toNat]? (λd=>Ao (d.cells.length=sz) (K (.eptr d.cells) []) .mk) .mk) .mk
 | .row i l,.int _ n,K,_=>Ao (0<=n∧n<(l:Int)) (K (.ptr i (if sz=1 then n.toNat else n.toNat*sz)) []) .mk
 |_,_,_,_=>False
def iaddrK_row{sz l:Nat}{i:Id}{k:IntKind}{n:Int}{g:Tag K}:iaddrK sz (.row i l) (.int k n) K g=Ao (0<=n∧n<(l:Int)) (K (.ptr i (if sz=1 then n.toNat else n.toNat*sz)) []) .mk:=rfl
def iaddrK_slice{sz:Nat}{nl:Bool}{t:Id}{xs:List D}{k:IntKind}{n:Int}{g:Tag K}:iaddrK sz (.slice nl t xs) (.int k n) K g=Ao (0<=n) (Got xs[n.toNat]? (λd=>Ao (d.cells.length=sz) (K (.eptr d.cells) []) .mk) .mk) .mk:=rfl
def x_iaddr{sz:Nat}{x i:Arg}:AF S s m fr (.iaddr sz x i) K=iaddrK sz (x.ev s) (i.ev s) K .mk:=by
 simp only[AF,AA];unfold iaddrK;cases x.ev s<;>cases i.ev s<;>first|(simp only[AV];done)|(simp only[Fh,Ao];done)|skip
 rename_i nl t xs k n;rw[D9];simp only[Ao];congr 1;cases xs[n.toNat]? with
 |none=>simp only[AV]
 |some d=>simp only[A3,Fh,Ao]
def idxsK:D->D->(K:D->Upd->Prop)->Tag K->Prop
 | .str b,.int _ n,K,_=>Ao (0<=n) (Got b[n.toNat]? (λc=>K (.int .u8 (c.toNat:Int)) []) .mk) .mk
 |_,_,_,_=>False
def idxsK_str{b:List UInt8}{k:IntKind}{n:Int}{g:Tag K}:idxsK (.str b) (.int k n) K g=Ao (0<=n) (Got b[n.toNat]? (λc=>K (.int .u8 (c.toNat:Int)) []) .mk) .mk:=rfl
def x_idxs{x i:Arg}:AF S s m fr (.idxs x i) K=idxsK (x.ev s) (i.ev s) K .mk:=by
 simp only[AF,AA];unfold idxsK;cases x.ev s<;>cases i.ev s<;>try simp only[AV]
 rw[D9,Co]
def iaddaK(len sz:Nat):D->D->(K:D->Upd->Prop)->Tag K->Prop
 | .ptr j o,.int _ n,K,_=>Ao (0<=n∧n<(len:Int)) (K (.ptr j (o+n.toNat*sz)) []) .mk
 |_,_,_,_=>False
def iaddaK_ptr{len sz o:Nat}{j:Id}{k:IntKind}{n:Int}{g:Tag K}:iaddaK len sz (.ptr j o) (.int k n) K g=Ao (0<=n∧n<(len:Int)) (K (.ptr j (o+n.toNat*sz)) []) .mk:=rfl
def x_iadda{len sz:Nat}{x i:Arg}:AF S s m fr (.iadda len sz x i) K=iaddaK len sz (x.ev s) (i.ev s) K .mk:=by
 simp only[AF,AA];unfold iaddaK;cases x.ev s<;>cases i.ev s<;>try simp only[AV]
 rw[Fh,Ao]
def idxmK(len sz:Nat):D->D->(K:D->Upd->Prop)->Tag K->Prop
 | .agg cs,.int _ n,K,_=>Ao (0<=n∧n<(len:Int)∧n.toNat*sz+sz<=cs.length) (K (.agg ((cs.drop (n.toNat*sz)).take sz)) []) .mk
 |_,_,_,_=>False
def idxmK_agg{len sz:Nat}{cs:List D}{k:IntKind}{n:Int}{g:Tag K}:idxmK len sz (.agg cs) (.int k n) K g=Ao (0<=n∧n<(len:Int)∧n.toNat*sz+sz<=cs.length) (K (.agg ((cs.drop (n.toNat*sz)).take sz)) []) .mk:=rfl
def x_idxm{len sz:Nat}{x i:Arg}:AF S s m fr (.idxm len sz x i) K=idxmK len sz (x.ev s) (i.ev s) K .mk:=by
 simp only[AF,AA];unfold idxmK;cases x.ev s<;>cases i.ev s<;>try simp only[AV]
 rw[Fh,Ao]
def idxaK(len:Nat):D->D->(K:D->Upd->Prop)->Tag K->Prop
 | .agg cs,.int _ n,K,_=>Ao (0<=n∧n<(len:Int)) (Got cs[n.toNat]? (λd=>K d []) .mk) .mk
 |_,_,_,_=>False
def idxaK_agg{len:Nat}{cs:List D}{k:IntKind}{n:Int}{g:Tag K}:idxaK len (.agg cs) (.int k n) K g=Ao (0<=n∧n<(len:Int)) (Got cs[n.toNat]? (λd=>K d []) .mk) .mk:=rfl
def x_idxa{len:Nat}{x i:Arg}:AF S s m fr (.idxa len x i) K=idxaK len (x.ev s) (i.ev s) K .mk:=by
 simp only[AF,AA];unfold idxaK;cases x.ev s<;>cases i.ev s<;>try simp only[AV]
 rw[D9,Co]
def mxmV(mx:Bool):D->D->Option D
 | .int k a,.int _ b=>some (.int k (if mx=true then max a b else min a b))
 |_,_=>none
def mxmV_t{k k':IntKind}{a b:Int}:mxmV true (.int k a) (.int k' b)=some (.int k (max a b)):=rfl
def mxmV_f{k k':IntKind}{a b:Int}:mxmV false (.int k a) (.int k' b)=some (.int k (min a b)):=rfl
def x_mxm{mx:Bool}{x y:Arg}:AF S s m fr (.mxm mx x y) K=Got (mxmV mx (x.ev s) (y.ev s)) (λd=>K d []) .mk:=by
 simp only[AF,AA];unfold mxmV;cases x.ev s<;>cases y.ev s<;>simp[AV,A3]
def CJ(dflt most:Nat):Option D->Option Nat
 |none=>some dflt
 |some (.int _ n)=>if 0<=n∧n<=most then some n.toNat else none
 |some _=>none
def optEv(s:Nat->D):Option Arg->Option D
 |none=>none
 |some a=>some (a.ev s)
def optEv_none:optEv s none=none:=rfl
def optEv_some{a:Arg}:optEv s (some a)=some (a.ev s):=rfl
def boundV_none{a b:Nat}:CJ a b none=some a:=rfl
def boundV_int{a b:Nat}{k:IntKind}{n:Int}:CJ a b (some (.int k n))=if 0<=n∧n<=b then some n.toNat else none:=rfl
def bound_eq{x:Option Arg}{a b:Nat}:Fe s x a b=CJ a b (optEv s x):=by
 cases x with
 |none=>rfl
 |some x=>simp only[Fe,optEv,CJ];cases x.ev s<;>rfl
def cutsK:D->Option D->Option D->(K:D->Upd->Prop)->Tag K->Prop
 | .str b,lo,hi,K,_=>Got (CJ b.length b.length hi) (λh=>Got (CJ 0 h lo) (λl=>K (.str ((b.drop l).take (h-l))) []) .mk) .mk
 |_,_,_,_,_=>False
def cutsK_str{b:List UInt8}{lo hi:Option D}{g:Tag K}:cutsK (.str b) lo hi K g=Got (CJ b.length b.length hi) (λh=>Got (CJ 0 h lo) (λl=>K (.str ((b.drop l).take (h-l))) []) .mk) .mk:=rfl
def x_cuts{x:Arg}{lo hi:Option Arg}:AF S s m fr (.cuts x lo hi) K=cutsK (x.ev s) (optEv s lo) (optEv s hi) K .mk:=by
 simp only[AF,AA];unfold cutsK;cases x.ev s<;>simp only[AV,bound_eq];rename_i b;cases CJ b.length b.length (optEv s hi)with
 |none=>simp only[AV]
 |some h=>
  simp only[A3];cases CJ 0 h (optEv s lo)with
  |none=>simp only[AV]
  |some l=>simp only[A3]
def cutlK(sz:Nat):D->Option D->Option D->(K:D->Upd->Prop)->Tag K->Prop
 | .slice nl _ xs,lo,hi,K,_=>Ao (D.headSz xs sz=sz) (Got (CJ xs.length xs.length hi) (λh=>Got (CJ 0 h lo) (λl=>K (.slice nl [] ((xs.drop l).take (h-l))) []) .mk) .mk) .mk
 |_,_,_,_,_=>False
def cutlK_slice{sz:Nat}{nl:Bool}{t:Id}{xs:List D}{lo hi:Option D}{g:Tag K}:cutlK sz (.slice nl t xs) lo hi K g=Ao (D.headSz xs sz=sz) (Got (CJ xs.length xs.length hi) (λh=>Got (CJ 0 h lo) (λl=>K (.slice nl [] ((xs.drop l).take (h-l))) []) .mk) .mk) .mk:=rfl
def x_cutl{sz:Nat}{x:Arg}{lo hi:Option Arg}:AF S s m fr (.cutl sz x lo hi) K=cutlK sz (x.ev s) (optEv s lo) (optEv s hi) K .mk:=by
 simp only[AF,AA];unfold cutlK;cases x.ev s<;>simp only[AV,bound_eq];rename_i nl t xs;rw[D9];cases CJ xs.length xs.length (optEv s hi)with
 |none=>simp[Got,Ao]
 |some h=>
  simp only;cases h1:CJ 0 h (optEv s lo)with
  |none=>simp[Got,Ao,h1]
  |some l=>simp[Got,Ao,h1]
def x_mkif{t:TypeId}{x:Arg}:AF S s m fr (.mkif t x) K=Ao ((x.ev s).data=true∧(x.ev s).un.calm=true) (K (.iface t (x.ev s).un) []) .mk:=by
 simp only[AF,AA];rw[D9,A3]
def extV(i:Nat):D->Option D
 | .tup vs=>vs[i]?
 |_=>none
def extV_tup{i:Nat}{vs:List D}:extV i (.tup vs)=vs[i]?:=rfl
def x_ext{i:Nat}{x:Arg}:AF S s m fr (.ext i x) K=Got (extV i (x.ev s)) (λd=>K d []) .mk:=by
 simp only[AF,AA];unfold extV;cases x.ev s<;>simp[AV,Co]
def x_mkfn{f:FuncId}{caps:List Arg}:AF S s m fr (.mkfn f caps) K=K (.fn f (caps.map (·.ev s))) []:=by simp[AF,AA,Got]
def x_len{b:Bool}{x:Arg}:AF S s m fr (.len b x) K=Got (lenD b (x.ev s)) (λn=>K (.int .i64 (n:Int)) []) .mk:=by simp only[AF,AA];rw[Co]
def lenD_str{b:List UInt8}:lenD true (.str b)=some b.length:=rfl
def lenD_slice{nl:Bool}{t:Id}{xs:List D}:lenD false (.slice nl t xs)=some xs.length:=rfl
def lenD_row{i:Id}{n:Nat}:lenD false (.row i n)=some n:=rfl
def Grow(m:Mem)(e:Nat):D->Prop
 | .slice nl t _=>nl=true∨(m t 0=some (.tok (e+1))∧t≠[])
 |_=>False
def Bg(e:Nat)(fr:Id):D->Upd
 | .slice true _ _=>[(fr,0,[.tok (e+1)])]
 | .slice false t _=>[(t,0,[.tok 0]),(fr,0,[.tok (e+1)])]
 |_=>[]
def appK(e sz bytes:Nat)(fr:Id):D->Option (List D)->(m:Mem)->(K:D->Upd->Prop)->Tag (m,K)->Prop
 | .slice nl t xs,some ys,m,K,_=>ifQ (nl=true∧ys=[]) (K (.slice true [] []) [])
   (Ao ((xs.length+ys.length)*(bytes+1)<=140737488355328∧D.headSz ys sz=sz∧Grow m e (.slice nl t xs)) (K (.slice false fr (if nl=true then ys else xs++ys)) (Bg e fr (.slice nl t xs))) .mk) .mk
 |_,_,_,_,_=>False
def appSrc_slice{sz:Nat}{nl:Bool}{t:Id}{ys:List D}:appSrc sz (.slice nl t ys)=some ys:=rfl
def appSrc_str{sz:Nat}{b:List UInt8}:appSrc sz (.str b)=if sz=1 then some (AD b)else none:=rfl
def appK_slice{e sz bytes:Nat}{nl:Bool}{t:Id}{xs ys:List D}{g:Tag (m,K)}:appK e sz bytes fr (.slice nl t xs) (some ys) m K g=ifQ (nl=true∧ys=[]) (K (.slice true [] []) [])
   (Ao ((xs.length+ys.length)*(bytes+1)<=140737488355328∧D.headSz ys sz=sz∧Grow m e (.slice nl t xs)) (K (.slice false fr (if nl=true then ys else xs++ys)) (Bg e fr (.slice nl t xs))) .mk) .mk:=rfl
def BG{nl:Bool}{xs ys:List D}(h:nl=true->xs=[]):(if nl=true then ys else xs++ys)=xs++ys:=by
 split
 ·rename_i e;rw[h e];rfl
 ·rfl
def x_app{e sz bytes:Nat}{x y:Arg}:AF S s m fr (.app e sz bytes x y) K=appK e sz bytes fr (x.ev s) (appSrc sz (y.ev s)) m K .mk:=by
 simp only[AF,AA];unfold appK;cases x.ev s<;>cases appSrc sz (y.ev s)<;>simp only[AV];rename_i nl t xs ys;by_cases h1:nl=true∧ys=[]
 ·rw[if_pos h1,A3];simp[ifQ,h1]
 ·rw[if_neg h1];have e1:∀A B:Prop,ifQ (nl=true∧ys=[]) A B .mk=B:=λA B=>by simp[ifQ,h1]
  rw[e1,D9];cases nl with
  |true=>simp[Got,Ao,Bg,Grow,and_assoc]
  |false=>
   simp only[QC,Grow,Bg,false_or];cases hm:m t 0 with
   |none=>simp[Got,Ao]
   |some d=>
    cases d with
    |tok k=>
     by_cases hk:k=e+1∧t≠[]
     ·obtain⟨rfl,hk⟩:=hk;simp[Got,Ao,hk,and_assoc]
     ·have hk':¬(k=e+1∧¬t=[]):=hk;have hk2:∀A:Prop,k=e+1->¬t=[]->A:=λA h1 h2=>absurd ⟨h1,h2⟩ hk'
      simp only[Got,Ao,if_neg hk];simp;intro _ _ h1 h2;exact hk2 _ h1 h2
    |_=>simp[Got,Ao]
def mkslK(e sz bytes:Nat)(z:D)(fr:Id):D->D->(K:D->Upd->Prop)->Tag K->Prop
 | .int _ n,.int _ c,K,_=>Ao (0<=n∧n<=c∧c*(bytes+1)<=140737488355328∧z.cells.length=sz) (if z.isRw=true then Ao (n=c) (K (.row fr n.toNat) [(fr,0,QP n.toNat z)]) .mk else K (.slice false fr (QP n.toNat z)) [(fr,0,[.tok (e+1)])]) .mk
 |_,_,_,_=>False
def mkslK_int{e sz bytes:Nat}{z:D}{k k':IntKind}{n c:Int}{g:Tag K}:mkslK e sz bytes z fr (.int k n) (.int k' c) K g=Ao (0<=n∧n<=c∧c*(bytes+1)<=140737488355328∧z.cells.length=sz) (if z.isRw=true then Ao (n=c) (K (.row fr n.toNat) [(fr,0,QP n.toNat z)]) .mk else K (.slice false fr (QP n.toNat z)) [(fr,0,[.tok (e+1)])]) .mk:=rfl
def isNI_ni:D.isRw .nilIface=true:=rfl
def isNI_int{k:IntKind}{n:Int}:D.isRw (.int k n)=false:=rfl
def isNI_str:D.isRw (.str [])=true:=rfl
def isNI_bool{b:Bool}:D.isRw (.bool b)=false:=rfl
def isNI_slice{nl:Bool}{t:Id}{xs:List D}:D.isRw (.slice nl t xs)=false:=rfl
def isNI_agg{xs:List D}:D.isRw (.agg xs)=false:=rfl
def x_mksl{e sz bytes:Nat}{z:D}{n c:Arg}:AF S s m fr (.mksl e sz bytes z n c) K=mkslK e sz bytes z fr (n.ev s) (c.ev s) K .mk:=by
 simp only[AF,AA];unfold mkslK;cases n.ev s<;>cases c.ev s<;>first|(simp only[AV];done)|skip
 by_cases hz:z.isRw=true
 ·simp only[hz,if_true,D9,A3,Ao]
 ·simp only[hz,QC,if_false,D9,A3,Ao]
def callK(S:Summs):D->List D->(m:Mem)->Id->(K:D->Upd->Prop)->Tag (m,K)->Prop
 | .fn f caps,ds,m,fr,K,_=>Got (S f) (λq=>Got (q.ex (ds++caps) m fr) (λx=>K x.1 x.2) .mk) .mk
 |_,_,_,_,_,_=>False
def x_call{f:Arg}{xs:List Arg}:AF S s m fr (.call f xs) K=callK S (f.ev s) (xs.map (·.ev s)) m fr K .mk:=by
 simp only[AF,AA];unfold callK;cases f.ev s<;>simp only[AV];rename_i f caps;cases S f with
 |none=>simp only[AV]
 |some q=>simp only[A3]
def Ag{f:FuncId}{caps ds:List D}{q:Summ}{g:Tag (m,K)}(h:S f=some q):callK S (.fn f caps) ds m fr K g=Got (q.ex (ds++caps) m fr) (λx=>K x.1 x.2) .mk:=by
 simp only[callK,h,A3]
def Aa{f:FuncId}{caps ds:List D}{F:List D->Option D}{g:Tag (m,K)}(h:S f=some (Ac F)):callK S (.fn f caps) ds m fr K g=Ao (((ds++caps).map D.un).all D.calm=true) (Got (F ((ds++caps).map D.un)) (λr=>K r []) .mk) .mk:=by
 rw[Ag h];simp only[Ac,D9,Ao];rw[Co]
def Al(S:Summs)(f:FuncId){F:List D->Option D}(h:S f=some (Ac F):=by exact rfl){caps ds:List D}{g:Tag (m,K)}:callK S (.fn f caps) ds m fr K g=Ao (((ds++caps).map D.un).all D.calm=true) (Got (F ((ds++caps).map D.un)) (λr=>K r []) .mk) .mk:=Aa h
end
def Ae{S:Summs}{ns:Id}{c body:DC}{Q:Ex->St->Prop}{st:St}{t:Tag (S,ns,c,Q,st)}(h:c=body)(k:body.wp S ns (loopQ S ns c Q) st):A8 S ns c Q st t:=wp_loop' (h▸k)
section
variable{k:IntKind}{a b:Int}
def v_add:AY .add (.int k a) (.int k b)=some (.int k (k.wrap (a+b))):=by simp[AY]
def v_sub:AY .sub (.int k a) (.int k b)=some (.int k (k.wrap (a-b))):=by simp[AY]
def v_mul:AY .mul (.int k a) (.int k b)=some (.int k (k.wrap (a*b))):=by simp[AY]
def v_quo:AY .quo (.int k a) (.int k b)=if b≠0 then some (.int k (k.wrap (a.tdiv b)))else none:=by by_cases h:b=0<;>simp[AY,h]
def v_rem:AY .rem (.int k a) (.int k b)=if b≠0 then some (.int k (a.tmod b))else none:=by by_cases h:b=0<;>simp[AY,h]
def v_and:AY .and (.int k a) (.int k b)=some (.int k (bits .and k a b)):=by simp[AY]
def v_or:AY .or (.int k a) (.int k b)=some (.int k (bits .or k a b)):=by simp[AY]
def v_xor:AY .xor (.int k a) (.int k b)=some (.int k (bits .xor k a b)):=by simp[AY]
def v_eql:AY .eql (.int k a) (.int k b)=some (.bool (decide (a=b))):=by simp[AY];rfl
def v_neq:AY .neq (.int k a) (.int k b)=some (.bool (decide (¬a=b))):=by simp[AY];rfl
def v_lss:AY .lss (.int k a) (.int k b)=some (.bool (decide (a<b))):=by simp[AY]
def v_leq:AY .leq (.int k a) (.int k b)=some (.bool (decide (a<=b))):=by simp[AY]
def v_gtr:AY .gtr (.int k a) (.int k b)=some (.bool (decide (b<a))):=by simp[AY]
def v_geq:AY .geq (.int k a) (.int k b)=some (.bool (decide (b<=a))):=by simp[AY]
def v_shl{k':IntKind}:AY .shl (.int k a) (.int k' b)=if 0<=b then some (.int k (k.wrap (a*2 ^ min b.toNat k.bits)))else none:=by simp[AY]
def v_shr{k':IntKind}:AY .shr (.int k a) (.int k' b)=if 0<=b then some (.int k (a.fdiv (2 ^ min b.toNat k.bits)))else none:=by simp[AY]
variable{x y:List UInt8}
def v_cat:AY .add (.str x) (.str y)=if x.length+y.length<=9223372036854775807 then some (.str (x++y))else none:=by simp[AY]
def v_seql:AY .eql (.str x) (.str y)=some (.bool (decide (x=y))):=by
 simp only[AY,Qb,D.bool.injEq];by_cases h:x=y<;>simp[h]
def v_sneq:AY .neq (.str x) (.str y)=some (.bool (decide (¬x=y))):=by
 simp only[AY,Qb,D.bool.injEq];by_cases h:x=y<;>simp[h]
def v_not{p:Bool}:evUn .not (.bool p)=some (.bool (!p)):=rfl
def v_neg:evUn .neg (.int k a)=some (.int k (k.wrap (0-a))):=rfl
end
def not_dec{p:Prop}[Decidable p]:(!decide p)=decide (¬p):=by by_cases h:p<;>simp[h]
def dec_true{p:Prop}[Decidable p]:(decide p=true)=p:=by simp
def dec_false{p:Prop}[Decidable p]:(decide p=false)=¬p:=by simp
def ff_t:(false=true)=False:=by simp
def tt_f:(true=false)=False:=by simp
def ifQ_not{p A B:Prop}{t:Tag (A,B)}:ifQ (¬p) A B t=ifQ p B A .mk:=by
 unfold ifQ;by_cases h:p<;>simp[h]
def slot_zero{o:DOper}{l:List DOper}:Di (o::l) 0=o.dst:=rfl
def slot_succ{o:DOper}{l:List DOper}{j:Nat}:Di (o::l) (j+1)=Di l j:=by simp[Di]
def app_nil{m:Mem}:Upd.app m []=m:=rfl
def app_cons{m:Mem}{i:Id}{o:Nat}{ds:List D}{u:Upd}:Upd.app m ((i,o,ds)::u)=Upd.app (m.put i o ds) u:=rfl
def unbytes_nil:Bw []=some []:=rfl
def unbytes_cons{n:Int}{r:List D}:Bw (.int .u8 n::r)=(Bw r).map (UInt8.ofNat n.toNat::·):=rfl
def opt_map_some{α β:Type}{f:α->β}{x:α}:(some x).map f=some (f x):=rfl
def ends_normal{rs:List RV}{R:D->Mem->Prop}{st:St}:DO rs R .normal st=Got (Cn rs st.s st.m) (λd=>R d st.m) .mk:=by
 simp[DO,Got]
def ends_ret{rs:List RV}{R:D->Mem->Prop}{st:St}:DO rs R .ret st=Got (Cn rs st.s st.m) (λd=>R d st.m) .mk:=by
 simp[DO,Got]
def ends_exit{rs:List RV}{R:D->Mem->Prop}{st:St}{i:Nat}:DO rs R (.exit i) st=False:=by
 simp[DO]
def res_one{s:Nat->D}{m:Mem}{t:Nat}:Cn [.t t] s m=some (s t):=rfl
def res_two{s:Nat->D}{m:Mem}{t t':Nat}:Cn [.t t,.t t'] s m=some (.tup [s t,s t']):=rfl
def res_three{s:Nat->D}{m:Mem}{t t' t'':Nat}:Cn [.t t,.t t',.t t''] s m=some (.tup [s t,s t',s t'']):=rfl
def res_zero{s:Nat->D}{m:Mem}:Cn [] s m=some (.tup []):=rfl
def entry_zero{d:D}{ds:List D}:Bx (d::ds) 0=d:=rfl
def entry_succ{d:D}{ds:List D}{t:Nat}:Bx (d::ds) (t+1)=Bx ds t:=rfl
def entry_nil{t:Nat}:Bx [] t= .junk:=rfl
def rowU(S:Summs)(ns:Id)(c:Nat)(ops l:List DOper)(k:Nat)(s:Nat->D)(dst:Option Nat)(m:Mem)(K:Nat->(Nat->D)->Mem->Prop)(d:D)(u:Upd):Prop:=Fz S ns c ops l k (CM s dst d) (Upd.app m u) K
def drawnU(S:Summs)(ns:Id)(c:Nat)(ops l:List DOper)(k:Nat)(s:Nat->D)(dst:Option Nat)(m:Mem)(op:DOp)(K:Nat->(Nat->D)->Mem->List Foot->Prop)(d:D)(u:Upd):Prop:=
 B4 S ns c ops l k (CM s dst d) (Upd.app m u) λk' s' m' f=>K k' s' m' ((rds S s m op,AM u)::f)
section
variable{S:Summs}{ns:Id}{c k:Nat}{ops l:List DOper}{s:Nat->D}{m:Mem}{dst:Option Nat}{op:DOp}{af:List Nat}{j:Nat}{b:Bool}{d:D}{i:Id}{o e:Nat}{fr:Id}{ds:List D}{u:Upd}
section
variable{K:Nat->(Nat->D)->Mem->Prop}
def row_nil:Fz S ns c ops [] k s m K=K k s m:=rfl
def row_one:Fz S ns c ops (⟨dst,op,af,none⟩::l) k s m K=AF S s m ((c+k)::ns) op (rowU S ns c ops l (k+1) s dst m K):=rfl
def row_if:Fz S ns c ops (⟨dst,op,af,some (j,b)⟩::l) k s m K=guardK (F8 s (Di ops j)) b
   (AF S s m ((c+k)::ns) op (rowU S ns c ops l (k+1) s dst m K)) (Fz S ns c ops l (k+1) (CM s dst (.tup [])) m K) .mk:=rfl
def rowU_nil:rowU S ns c ops l k s dst m K d []=Fz S ns c ops l k (CM s dst d) m K:=rfl
def rowU_cons:rowU S ns c ops l k s dst m K d ((i,o,ds)::u)=rowU S ns c ops l k s dst (m.put i o ds) K d u:=rfl
def rowU_grow{d':D}:rowU S ns c ops l k s dst m K d (Bg e fr d')=Fz S ns c ops l k (CM s dst d) (Upd.app m (Bg e fr d')) K:=rfl
end
variable{K:Nat->(Nat->D)->Mem->List Foot->Prop}
def drawn_nil:B4 S ns c ops [] k s m K=K k s m []:=rfl
def drawn_one:B4 S ns c ops (⟨dst,op,af,none⟩::l) k s m K=AF S s m ((c+k)::ns) op (drawnU S ns c ops l (k+1) s dst m op K):=rfl
def drawn_if:B4 S ns c ops (⟨dst,op,af,some (j,b)⟩::l) k s m K=guardK (F8 s (Di ops j)) b
   (AF S s m ((c+k)::ns) op (drawnU S ns c ops l (k+1) s dst m op K))
   (B4 S ns c ops l (k+1) (CM s dst (.tup [])) m λk' s' m' f=>K k' s' m' ((rds S s m op,[])::f)) .mk:=rfl
def drawnU_nil:drawnU S ns c ops l k s dst m op K d []=B4 S ns c ops l k (CM s dst d) m λk' s' m' f=>K k' s' m' ((rds S s m op,[])::f):=rfl
def drawnU_cons:drawnU S ns c ops l k s dst m op K d ((i,o,ds)::u)=B4 S ns c ops l k (CM s dst d) (Upd.app (m.put i o ds) u) λk' s' m' f=>K k' s' m' ((rds S s m op,AM ((i,o,ds)::u))::f):=rfl
def drawnU_grow{d':D}:drawnU S ns c ops l k s dst m op K d (Bg e fr d')=B4 S ns c ops l k (CM s dst d) (Upd.app m (Bg e fr d')) λk' s' m' f=>K k' s' m' ((rds S s m op,AM (Bg e fr d'))::f):=rfl
end
def data_int{k:IntKind}{n:Int}:D.data (.int k n)=true:=rfl
def data_str{b:List UInt8}:D.data (.str b)=true:=rfl
def data_bool{b:Bool}:D.data (.bool b)=true:=rfl
def data_slice{nl:Bool}{t:Id}{xs:List D}:D.data (.slice nl t xs)=true:=rfl
def data_agg{xs:List D}:D.data (.agg xs)=true:=rfl
def data_ptr{i:Id}{o:Nat}:D.data (.ptr i o)=true:=rfl
def data_nilptr:D.data .nilptr=true:=rfl
def cells_int{k:IntKind}{n:Int}:D.cells (.int k n)=[.int k n]:=rfl
def cells_str{b:List UInt8}:D.cells (.str b)=[.str b]:=rfl
def cells_bool{b:Bool}:D.cells (.bool b)=[.bool b]:=rfl
def Fb{nl:Bool}{t:Id}{xs:List D}:D.cells (.slice nl t xs)=[.slice nl t xs]:=rfl
def cells_agg{xs:List D}:D.cells (.agg xs)=xs:=rfl
def cells_ptr{i:Id}{o:Nat}:D.cells (.ptr i o)=[.ptr i o]:=rfl
def un_int{k:IntKind}{n:Int}:D.un (.int k n)= .int k n:=rfl
def un_str{b:List UInt8}:D.un (.str b)= .str b:=rfl
def un_bool{b:Bool}:D.un (.bool b)= .bool b:=rfl
def un_slice{nl:Bool}{t:Id}{xs:List D}:D.un (.slice nl t xs)= .slice nl [] xs:=rfl
def un_agg{xs:List D}:D.un (.agg xs)= .agg (xs.map D.un1):=rfl
def un_fn{f:FuncId}{cs:List D}:D.un (.fn f cs)= .fn f cs:=rfl
def un1_int{k:IntKind}{n:Int}:D.un1 (.int k n)= .int k n:=rfl
def un1_str{b:List UInt8}:D.un1 (.str b)= .str b:=rfl
def un1_bool{b:Bool}:D.un1 (.bool b)= .bool b:=rfl
def un1_slice{nl:Bool}{t:Id}{xs:List D}:D.un1 (.slice nl t xs)= .slice nl [] xs:=rfl
def unR_int{k:IntKind}{n:Int}:D.unR (.int k n)= .int k n:=rfl
def unR_str{b:List UInt8}:D.unR (.str b)= .str b:=rfl
def unR_bool{b:Bool}:D.unR (.bool b)= .bool b:=rfl
def unR_slice{nl:Bool}{t:Id}{xs:List D}:D.unR (.slice nl t xs)= .slice nl [] xs:=rfl
def unR_agg{xs:List D}:D.unR (.agg xs)= .agg (xs.map D.un1):=rfl
def unR_tup{xs:List D}:D.unR (.tup xs)= .tup (xs.map D.un):=rfl
def calm_int{k:IntKind}{n:Int}:D.calm (.int k n)=true:=rfl
def calm_str{b:List UInt8}:D.calm (.str b)=true:=rfl
def calm_bool{b:Bool}:D.calm (.bool b)=true:=rfl
def calm_slice{nl:Bool}{xs:List D}:D.calm (.slice nl [] xs)=true:=rfl
def calm_aggs{xs:List D}:D.calm (.agg xs)=xs.all D.calm1:=rfl
def calm_fn{f:FuncId}:D.calm (.fn f [])=true:=rfl
def calm1_int{k:IntKind}{n:Int}:D.calm1 (.int k n)=true:=rfl
def calm1_str{b:List UInt8}:D.calm1 (.str b)=true:=rfl
def calm1_bool{b:Bool}:D.calm1 (.bool b)=true:=rfl
def calm1_slice{nl:Bool}{xs:List D}:D.calm1 (.slice nl [] xs)=true:=rfl
def calmR_int{k:IntKind}{n:Int}:D.calmR (.int k n)=true:=rfl
def calmR_str{b:List UInt8}:D.calmR (.str b)=true:=rfl
def calmR_bool{b:Bool}:D.calmR (.bool b)=true:=rfl
def calmR_slice{nl:Bool}{xs:List D}:D.calmR (.slice nl [] xs)=true:=rfl
def calmR_agg{xs:List D}:D.calmR (.agg xs)=xs.all D.calm1:=rfl
def calmR_tup{xs:List D}:D.calmR (.tup xs)=xs.all D.calm:=rfl
def l_map1{f:D->D}{x:D}{xs:List D}:(x::xs).map f=f x::xs.map f:=rfl
def l_map1n{f:D->D}:List.map f []=[]:=rfl
def l_map2{f:Arg->D}{x:Arg}{xs:List Arg}:(x::xs).map f=f x::xs.map f:=rfl
def l_map2n{f:Arg->D}:List.map f []=[]:=rfl
def l_map3{f:Nat×Nat×Arg->Nat×Nat×D}{x:Nat×Nat×Arg}{xs:List (Nat×Nat×Arg)}:(x::xs).map f=f x::xs.map f:=rfl
def l_map3n{f:Nat×Nat×Arg->Nat×Nat×D}:List.map f []=[]:=rfl
def l_all{f:D->Bool}{x:D}{xs:List D}:(x::xs).all f=(f x&&xs.all f):=rfl
def l_alln{f:D->Bool}:List.all [] f=true:=rfl
def l_len{x:D}{xs:List D}:(x::xs).length=xs.length+1:=rfl
def l_lenn:([]:List D).length=0:=rfl
def l_app{x:D}{xs ys:List D}:(x::xs)++ys=x::(xs++ys):=rfl
def l_appn{ys:List D}:[]++ys=ys:=rfl
def l_appr{ys:List D}:ys++[]=ys:=by simp
def l_get0{x:D}{xs:List D}:(x::xs)[0]?=some x:=rfl
def l_get1{x:D}{xs:List D}{n:Nat}:(x::xs)[n+1]?=xs[n]?:=rfl
def l_head{x:D}{xs:List D}:(x::xs).head?=some x:=rfl
def n_beq{n:Nat}:(n==n)=true:=by simp
def p_self:(True∧True)=True:=by simp
def p_and{p:Prop}:(True∧p)=p:=by simp
def p_and'{p:Prop}:(p∧True)=p:=by simp
def p_nf:(¬False)=True:=by simp
def p_nt:(¬True)=False:=by simp
def b_tt:(true=true)=True:=by simp
def b_ff:(false=false)=True:=by simp
def d_tt:decide True=true:=by simp
def d_ff:decide False=false:=by simp
def go1:=Qa @seqQ_normal <| Qa @seqQ_ret <| Qa @seqQ_exit <| Qa @blockQ_normal <| Qa @blockQ_ret <| Qa @D5 <| Qa @loopQ_normal <| Qa @loopQ_ret <| Qa @loopQ_exit <| Qa @wp_skip' <| Qa @wp_ret' <| Qa @wp_exit' <| Qa @wp_seq' <| Qa @wp_block_eq <| Qa @wp_cond_eq <| Qa @wp_row_eq <| Qa @wp_drawn_eq <| Qa @wp_loop_eq <| Qa @setS_some <| Qa @setS_none <| Qa @Arg.ev_t <| Qa @Arg.ev_c <| Qa @x_mv <| Qa @x_pick <| Qa @x_alloc <| Qa @x_box <| Qa @x_build <| Qa @x_bslice <| Qa @x_load <| Qa @x_range <| Qa @x_next <| Qa @x_store <| Qa @x_nilchk <| Qa @x_bin <| Qa @x_un <| Qa @x_beq <| Qa @x_seq <| Qa @x_nileq <| Qa @x_conv <| Qa @x_s2s <| Qa @x_s2b <| Qa @x_b2s <| Qa @x_faddr <| Qa @x_field <| Qa @x_iaddr <| Qa @x_idxs <| Qa @x_idxa <| Qa @x_idxm <| Qa @x_mxm <| Qa @x_iadda <| Qa @x_cuts <| Qa @x_cutl <| Qa @x_mkif <| Qa @x_ext <| Qa @x_mkfn <| Qa @x_len <| Qa @x_app <| Qa @x_mksl <| Qa @x_call <| Qa @ends_normal <| Qa @ends_ret <| Qa @ends_exit <| Qa @res_one <| Qa @res_two <| Qa @res_three <| Qa @res_zero <| Qa @row_nil <| Qa @row_one <| Qa @row_if <| Qa @rowU_nil <| Qa @rowU_cons <| Qa @rowU_grow <| Qa @drawnU_nil <| Qa @drawnU_cons <| Qa @drawnU_grow <| Qa @drawn_nil <| Qa @drawn_one <| Qa @drawn_if <| Qa @slot_zero @slot_succ
def go2:=Qa @Need_true <| Qa @ifQ_true <| Qa @ifQ_false <| Qa @A3 <| Qa @AV <| Qa @D9 <| Qa @Co <| Qa @guardK_bool <| Qa @guardK_tup <| Qa @Ct <| Qa @condQ_bool <| Qa @pickK_bool <| Qa @loadK_ptr <| Qa @rangeK_str <| Qa @nextK_itp <| Qa @nextI_it <| Qa @loadK_ptrs <| Qa @loadK_eptr <| Qa @loadK_eptrs <| Qa @storeK_ptr <| Qa @nilchkK_ptr <| Qa @nilchkK_eptr <| Qa @nilchkK_fn <| Qa @beqV_f <| Qa @beqV_t <| Qa @seqV_agg <| Qa @convV_int <| Qa @s2sV_str <| Qa @s2bV_str <| Qa @b2sV_slice <| Qa @faddrV_ptr <| Qa @faddrV_eptr <| Qa @fieldV_leaf <| Qa @fieldV_agg <| Qa @iaddrK_slice <| Qa @idxsK_str <| Qa @idxaK_agg <| Qa @idxmK_agg <| Qa @mxmV_t <| Qa @mxmV_f <| Qa @iaddaK_ptr <| Qa @cutsK_str <| Qa @cutlK_slice <| Qa @optEv_none <| Qa @optEv_some <| Qa @boundV_none <| Qa @boundV_int <| Qa @extV_tup <| Qa @lenD_str <| Qa @lenD_slice <| Qa @lenD_row <| Qa @appK_slice <| Qa @appSrc_slice <| Qa @appSrc_str <| Qa @mkslK_int <| Qa @isNI_ni <| Qa @isNI_int <| Qa @isNI_str <| Qa @isNI_bool <| Qa @isNI_slice <| Qa @isNI_agg <| Qa @iaddrK_row <| Qa @v_add <| Qa @v_sub <| Qa @v_mul <| Qa @v_quo <| Qa @v_rem <| Qa @v_and <| Qa @v_or <| Qa @v_xor <| Qa @v_eql <| Qa @v_neq <| Qa @v_lss <| Qa @v_leq <| Qa @v_gtr <| Qa @v_geq <| Qa @v_shl <| Qa @v_shr <| Qa @v_cat <| Qa @v_seql <| Qa @v_sneq <| Qa @v_not <| Qa @v_neg <| Qa @not_dec <| Qa @dec_true <| Qa @dec_false <| Qa @ff_t <| Qa @tt_f <| Qa @ifQ_not <| Qa @app_nil <| Qa @app_cons <| Qa @unbytes_nil <| Qa @unbytes_cons <| Qa @opt_map_some <| Qa @entry_zero <| Qa @entry_succ @entry_nil
def go3:=Qa @data_int <| Qa @data_str <| Qa @data_bool <| Qa @data_slice <| Qa @data_agg <| Qa @data_ptr <| Qa @data_nilptr <| Qa @cells_int <| Qa @cells_str <| Qa @cells_bool <| Qa @Fb <| Qa @cells_agg <| Qa @cells_ptr <| Qa @un_int <| Qa @un_str <| Qa @un_bool <| Qa @un_slice <| Qa @un_agg <| Qa @un_fn <| Qa @un1_int <| Qa @un1_str <| Qa @un1_bool <| Qa @un1_slice <| Qa @unR_int <| Qa @unR_str <| Qa @unR_bool <| Qa @unR_slice <| Qa @unR_agg <| Qa @unR_tup <| Qa @calm_int <| Qa @calm_str <| Qa @calm_bool <| Qa @calm_slice <| Qa @calm_aggs <| Qa @calm_fn <| Qa @calm1_int <| Qa @calm1_str <| Qa @calm1_bool <| Qa @calm1_slice <| Qa @calmR_int <| Qa @calmR_str <| Qa @calmR_bool <| Qa @calmR_slice <| Qa @calmR_agg @calmR_tup
def go4:=Qa @l_map1 <| Qa @l_map1n <| Qa @l_map2 <| Qa @l_map2n <| Qa @l_map3 <| Qa @l_map3n <| Qa @l_all <| Qa @l_alln <| Qa @l_len <| Qa @l_lenn <| Qa @l_app <| Qa @l_appn <| Qa @l_appr <| Qa @l_get0 <| Qa @l_get1 <| Qa @l_head <| Qa @n_beq <| Qa @p_self <| Qa @p_and <| Qa @p_and' <| Qa @p_nf <| Qa @p_nt <| Qa @b_tt <| Qa @b_ff <| Qa @d_tt <| Qa @d_ff <| Qa @Zd <| Qa @Bool.and_true <| Qa @Bool.not_true @Bool.not_false
def gB0:(type_of% @QB.{0})∧(type_of% @Qn.{0})∧(type_of% @Qg.{0})∧(type_of% @Qv.{0})∧(type_of% @QF)∧(type_of% @QA)∧(type_of% @Qq)∧(type_of% @and_self)∧(type_of% @go2)∧(type_of% @go3)∧(type_of% @go4):=
 ⟨@QB,@Qn,@Qg,@Qv,@QF,@QA,@Qq,@and_self,@go2,@go3,@go4⟩
def gB1:(type_of% @Qw.{0,0})∧(type_of% @Qy.{0,0})∧(type_of% @go2)∧(type_of% @go3)∧(type_of% @go4):=
 ⟨@Qw,@Qy,@go2,@go3,@go4⟩
def gB2:(type_of% @Qg.{0})∧(type_of% @Qv.{0})∧(type_of% @QA)∧(type_of% @go2)∧(type_of% @go3):=
 ⟨@Qg,@Qv,@QA,@go2,@go3⟩
def gB3:(type_of% @go2)∧(type_of% @go3)∧(type_of% @go4):=
 ⟨@go2,@go3,@go4⟩
abbrev mm(d s:Nat):DOper:=⟨some d,.mv (.t s),[],none⟩
abbrev oo(d:Nat)(x:DOp):DOper:=⟨some d,x,[],none⟩
abbrev oz(x:DOp):DOper:=⟨none,x,[],none⟩
abbrev og(d:Nat)(x:DOp)(k:Nat)(b:Bool):DOper:=⟨some d,x,[],some (k,b)⟩
abbrev ll(d s:Nat):DOper:=⟨some d,.load none (.t s),[],none⟩
abbrev lk(d k s:Nat):DOper:=⟨some d,.load (some k) (.t s),[],none⟩
abbrev ff(d k s:Nat):DOper:=⟨some d,.faddr k (.t s),[],none⟩
abbrev xx(d k s:Nat):DOper:=⟨some d,.ext k (.t s),[],none⟩
abbrev nn(d:Nat)(b:Bool)(s:Nat):DOper:=⟨some d,.len b (.t s),[],none⟩
abbrev ci(d:Nat)(n:Int):DOper:=⟨some d,.mv (.c (.int .i64 n)),[],none⟩
abbrev cb(d:Nat)(b:Bool):DOper:=⟨some d,.mv (.c (.bool b)),[],none⟩
abbrev ii(d k s t:Nat):DOper:=⟨some d,.iaddr k (.t s) (.t t),[],none⟩
abbrev bt(d:Nat)(o:BinOp)(s t:Nat):DOper:=⟨some d,.bin o (.t s) (.t t),[],none⟩
abbrev bi(d:Nat)(o:BinOp)(s:Nat)(n:Int):DOper:=⟨some d,.bin o (.t s) (.c (.int .i64 n)),[],none⟩
abbrev cc(d f:Nat)(a:List Arg):DOper:=⟨some d,.call (.c (.fn f [])) a,[],none⟩
abbrev sr(a:List DOper)(b:DC):DC:= .seq (.row a) b
abbrev cd(n:Nat)(a b:DC):DC:= .cond (.t n) a b
abbrev nk(d s:Nat):DOper:=⟨some d,.nilchk (.t s),[],none⟩
abbrev st(n a b:Nat):DOper:=⟨none,.store n (.t a) (.t b),[],none⟩
abbrev po(d a b:Nat):DOper:=⟨some d,.pick (.t a) (.c (.bool true)) (.t b),[],none⟩
abbrev pa(d a b:Nat):DOper:=⟨some d,.pick (.t a) (.t b) (.c (.bool false)),[],none⟩
abbrev bs(d:Nat)(o:BinOp)(s:Nat)(x:List UInt8):DOper:=⟨some d,.bin o (.t s) (.c (.str x)),[],none⟩
abbrev bu(d:Nat)(o:BinOp)(s:Nat)(n:Int):DOper:=⟨some d,.bin o (.t s) (.c (.int .u8 n)),[],none⟩
abbrev ob(d s:Nat):DOper:=⟨some d,.box (.t s),[],none⟩
abbrev nt(d s:Nat):DOper:=⟨some d,.un .not (.t s),[],none⟩
abbrev al(d:Nat)(l:List D):DOper:=⟨some d,.alloc l,[],none⟩
abbrev c1(d f a:Nat):DOper:=⟨some d,.call (.c (.fn f [])) [.t a],[],none⟩
abbrev c2(d f a b:Nat):DOper:=⟨some d,.call (.c (.fn f [])) [.t a,.t b],[],none⟩
abbrev c3(d f a b c:Nat):DOper:=⟨some d,.call (.c (.fn f [])) [.t a,.t b,.t c],[],none⟩
abbrev cs(d:Nat)(x:List UInt8):DOper:=⟨some d,.mv (.c (.str x)),[],none⟩
abbrev bl(d e n a:Nat):DOper:=⟨some d,.bslice e n [.t a],[],none⟩
abbrev ap(d e n m a b:Nat):DOper:=⟨some d,.app e n m (.t a) (.t b),[],none⟩
abbrev gm(d s k:Nat)(b:Bool):DOper:=⟨some d,.mv (.t s),[],some (k,b)⟩
abbrev gl(d s k:Nat)(b:Bool):DOper:=⟨some d,.load none (.t s),[],some (k,b)⟩
abbrev gf(d f s k:Nat)(b:Bool):DOper:=⟨some d,.faddr f (.t s),[],some (k,b)⟩
abbrev gt(d:Nat)(o:BinOp)(s t k:Nat)(b:Bool):DOper:=⟨some d,.bin o (.t s) (.t t),[],some (k,b)⟩
abbrev gi(d:Nat)(o:BinOp)(s:Nat)(n:Int)(k:Nat)(b:Bool):DOper:=⟨some d,.bin o (.t s) (.c (.int .i64 n)),[],some (k,b)⟩
abbrev gs(d:Nat)(o:BinOp)(s:Nat)(x:List UInt8)(k:Nat)(b:Bool):DOper:=⟨some d,.bin o (.t s) (.c (.str x)),[],some (k,b)⟩
abbrev gu(d:Nat)(o:BinOp)(s:Nat)(n:Int)(k:Nat)(b:Bool):DOper:=⟨some d,.bin o (.t s) (.c (.int .u8 n)),[],some (k,b)⟩
abbrev gc(d f:Nat)(a:List Arg)(k:Nat)(b:Bool):DOper:=⟨some d,.call (.c (.fn f [])) a,[],some (k,b)⟩
abbrev gn(d:Nat)(q:Bool)(s k:Nat)(b:Bool):DOper:=⟨some d,.len q (.t s),[],some (k,b)⟩
abbrev zi:D:= .int .i64 0
abbrev zu:D:= .int .u8 0
abbrev zs:D:= .str []
abbrev zb:D:= .bool false
abbrev zn:D:= .slice true [] []
def Am {P:Program} {f:FuncId} {N:Nat} {dc:DC} {rs:List RV} {fn:Func} {code:Code} (h1:P.funcs[f]?=some fn) (h2:fn.body=some code:=by rfl) (h3:(fn.name== "runtime.NumGoroutine")=false:=by kernel_rfl) (h4:fn.ntmps=N:=by rfl) (h5:B7 P N code=some dc:=by kernel_rfl) (h6:trRes P fn.results.toList=some rs:=by kernel_rfl):Fn P f N dc rs:=⟨fn,code,h1,h2,h3,h4,h5,h6⟩
def CG(G:Nat->Nat):Gh:={G:=G,G0:=G,dl:=λ_=>none,tb:=λ_=>none}
def start_inv(P:Program)(w:World){G:Nat->Nat}(hG:∀b,w.heap.size<=b->G b=0):InvM P w.heap.size w (λ_ _=>none) w (CG G):=
 ⟨Below.refl _ _,Qo _,hG,λ_ _=>rfl,λi b h=>by simp[CG]at h,λi i' b h=>by simp[CG]at h,λi o d h=>by simp at h,λi e h=>by simp at h,λi i' e e' b x x' h=>by simp at h,λi s p h=>by simp at h,λi i' s p s' p' b x x' h=>by simp at h⟩
def row_of{P:Program}{f:FuncId}{F:List D->Option D}(h:(Ac F).ok P f){w:World}{G:Nat->Nat}(hG:∀b,w.heap.size<=b->G b=0){ds:List D}{vs:List Value}{d:D}(hl:vs.length=ds.length)
  (hrep:∀(j:Nat) d v,ds[j]?=some d->vs[j]?=some v->Rep w (CG G) d v) (hu:ds.map D.un=ds) (hc:ds.all D.calm=true) (hF:F ds=some d):
  Calls P f vs.toArray w λe w'=>∃v g',e= .returned v∧Rep w' g' d v∧Below w.heap.size w w':=by
 have hex:(Ac F).ex ds (λ_ _=>none) []=some (d,[]):=by
  simp only[Ac];rw[hu,if_pos hc,hF];rfl
 refine(h.run (start_inv P w hG) (λi _=>⟨λ_=>rfl,rfl,rfl⟩) hl hrep hex).mono ?_;rintro e w' ⟨v,g',rfl,hs⟩;exact⟨v,g',rfl,hs.rep,hs.inv.below⟩
def row_true{P:Program}{f:FuncId}{F:List D->Option D}(h:(Ac F).ok P f){w:World}{G:Nat->Nat}(hG:∀b,w.heap.size<=b->G b=0){ds:List D}{vs:List Value}(hl:vs.length=ds.length)
  (hrep:∀(j:Nat) d v,ds[j]?=some d->vs[j]?=some v->Rep w (CG G) d v) (hu:ds.map D.un=ds) (hc:ds.all D.calm=true) (hF:F ds=some (.bool true)):
  Calls P f vs.toArray w λe w'=>e= .returned (.bool true)∧Below w.heap.size w w':=by
 refine(row_of h hG hl hrep hu hc hF).mono ?_;rintro e w' ⟨v,g',rfl,hr,hb⟩;rw[hr.bool_inv];exact⟨rfl,hb⟩
def A5(f:List Foot)(ps:List (Nat×Nat)):Bool:=ps.all λp=>(f.getD p.1 ([],[])).2.all λl=>!((f.getD p.2 ([],[])).1.contains l)&&!((f.getD p.2 ([],[])).2.contains l)
def Aj{f:List Foot}{ps:List (Nat×Nat)}(h:A5 f ps=true):feetOk f ps:=by
 intro p hp l hl;have h1:=Qr.1 h p hp;have h2:=Qr.1 h1 l hl;simpa using h2
def DC.run(S:Summs)(ns:Id):Nat->DC->St->Option (Ex×St)
 |0,_,_=>none
 |_+1,.skip,st=>some (.normal,st)
 |_+1,.ret,st=>some (.ret,st)
 |_+1,.exit i,st=>some (.exit i,st)
 |_+1,.row ops,st=>match D4 S ns st.c ops ops 0 st.s st.m with
  |some (s,m)=>some (.normal,⟨s,m,st.c+ops.length⟩)
  |none=>none
 |_+1,.drawn ops ps,st=>match B3 S ns st.c ops ops 0 st.s st.m with
  |some (s,m,f)=>if A5 f ps=true then some (.normal,⟨s,m,st.c+ops.length⟩)else none
  |none=>none
 |n+1,.seq a b,st=>match DC.run S ns n a st with
  |some (.normal,st1)=>DC.run S ns n b st1
  |r=>r
 |n+1,.cond c a b,st=>match c.ev st.s with
  | .bool true=>DC.run S ns n a st
  | .bool false=>DC.run S ns n b st
  |_=>none
 |n+1,.block i c,st=>match DC.run S ns n c st with
  |some (.exit j,st1)=>if j=i then some (.normal,st1)else some (.exit j,st1)
  |r=>r
 |n+1,.loop c,st=>match DC.run S ns n c st with
  |some (.normal,st1)=>DC.run S ns n (.loop c) st1
  |r=>r
def run_ev{S:Summs}{ns:Id}:∀(n:Nat)(dc:DC)(st:St)(e:Ex)(st':St),DC.run S ns n dc st=some (e,st')->Ev S ns dc st e st':=by
 intro n;induction n with
 |zero=>intro dc st e st' h;simp[DC.run]at h
 |succ n ih=>
  intro dc st e st' h;cases dc with
  |skip=>simp only[DC.run,Qb,Qh]at h;exact⟨h.1.symm,h.2.symm⟩
  |ret=>simp only[DC.run,Qb,Qh]at h;exact⟨h.1.symm,h.2.symm⟩
  |exit i=>simp only[DC.run,Qb,Qh]at h;exact⟨h.1.symm,h.2.symm⟩
  |row ops=>
   simp only[DC.run]at h;split at h
   ·rename_i s m he;simp only[Qb,Qh]at h;obtain⟨rfl,rfl⟩:=h;exact⟨rfl,he,rfl⟩
   ·cases h
  |drawn ops ps=>
   simp only[DC.run]at h;split at h
   ·rename_i s m f he;split at h
    ·rename_i hf;simp only[Qb,Qh]at h;obtain⟨rfl,rfl⟩:=h;exact⟨rfl,⟨f,he,Aj hf⟩,rfl⟩
    ·cases h
   ·cases h
  |seq a b=>
   simp only[DC.run]at h;split at h
   ·rename_i st1 h1;exact⟨.normal,st1,ih _ _ _ _ h1,.inl ⟨rfl,ih _ _ _ _ h⟩⟩
   ·rename_i hne;refine⟨e,st',ih _ _ _ _ h,.inr ⟨λhe=>?_,rfl,rfl⟩⟩;subst he;exact hne st' h
  |cond c a b=>
   simp only[DC.run]at h;split at h
   ·rename_i hc;exact .inl ⟨hc,ih _ _ _ _ h⟩
   ·rename_i hc;exact .inr ⟨hc,ih _ _ _ _ h⟩
   ·cases h
  |block i c=>
   simp only[DC.run]at h;split at h
   ·rename_i j st1 h1;split at h
    ·rename_i hj;simp only[Qb,Qh]at h;obtain⟨rfl,rfl⟩:=h;exact⟨.exit j,ih _ _ _ _ h1,.inl ⟨by rw[hj],rfl⟩⟩
    ·rename_i hj;simp only[Qb,Qh]at h;obtain⟨rfl,rfl⟩:=h;exact⟨.exit j,ih _ _ _ _ h1,.inr ⟨by simp[hj],rfl⟩⟩
   ·rename_i hne;refine⟨e,ih _ _ _ _ h,.inr ⟨λhe=>?_,rfl⟩⟩;subst he;exact hne i st' h
  |loop c=>
   simp only[DC.run]at h;split at h
   ·rename_i st1 h1;obtain⟨k,hk⟩:=ih _ _ _ _ h;exact⟨k+1,.more k _ _ _ _ (ih _ _ _ _ h1) hk⟩
   ·rename_i hne;refine⟨0,.stop _ _ _ (ih _ _ _ _ h) (λhe=>?_)⟩;subst he;exact hne st' h
def funRun(S:Summs)(N:Nat)(dc:DC)(rs:List RV)(fuel:Nat)(ds:List D):Option D:=
 if ds.length<=N then match DC.run S [] fuel dc ⟨Bx ds,λ_ _=>none,0⟩with
  |some (.exit _,_)=>none
  |some (_,st)=>match Cn rs st.s st.m with
   |some d=>if d.unR.calmR=true then some d.unR else none
   |none=>none
  |none=>none
 else none
def funRun_ok{P:Program}{S:Summs}{f:FuncId}{N:Nat}{dc:DC}{rs:List RV}(hS:Summs.ok P S)(hf:Fn P f N dc rs)(fuel:Nat):(Ac (funRun S N dc rs fuel)).ok P f:=by
 refine Ay hS hf (λds r h=>?_) (λds r h=>?_)
 ·unfold funRun at h;split at h
  ·assumption
  ·cases h
 ·unfold funRun at h;split at h
  ·split at h
   ·cases h
   ·rename_i ex st hne hr;split at h
    ·rename_i d hd;split at h
     ·rename_i hc;simp only[Qb]at h;subst h;refine⟨ex,st,run_ev _ _ _ _ _ hr,?_,d,hd,rfl,hc⟩;cases ex with
      |normal=>exact .inl rfl
      |ret=>exact .inr rfl
      |exit i=>exact absurd rfl (hne i)
     ·cases h
    ·cases h
   ·cases h
  ·cases h
end Go.Vd
namespace Go.Vd
open Go.Proofs
def dc89:DC:=(sr [mm 2 0,nt 3 2] (cd 3 (.row [oo 4 (.build [] []),oo 5 (.mkif 290 (.t 4)),oz (.stop)]) .skip))
def fn89:Fn Qc 89 6 dc89 []:=Am func89
def dc90l0:DC:=(sr [bt 28 .lss 27 26] (.seq (cd 28 .skip (.exit 0)) (.seq (.block 1 (sr [ii 29 1 25 27,ll 30 29,mm 5 30] (sr [mm 31 5,bu 32 .geq 31 48,mm 33 32,gm 34 5 2 true,gu 35 .leq 34 57 2 true,pa 36 33 35,c1 37 89 36] (.row [mm 38 3,oo 39 (.bin .mul (.c (.int .i64 10)) (.t 38)),mm 40 5,bu 41 .sub 40 48,oo 42 (.conv .i64 (.t 41)),bt 43 .add 39 42,mm 3 43])))) (.row [bi 44 .add 27 1,mm 27 44]))))
def dc90:DC:=(sr [ci 2 0] (sr [mm 6 0,nn 7 true 6,bi 8 .geq 7 1,mm 9 8,gm 10 0 3 true,gn 11 true 10 3 true,gi 12 .leq 11 3 3 true,pa 13 9 12,mm 14 13,gm 15 0 8 true,gs 16 .eql 15 [48] 8 true,gm 17 16 8 true,gm 18 0 11 false,og 19 (.idxs (.t 18) (.c (.int .i64 0))) 11 false,gu 20 .neq 19 48 11 false,og 21 (.pick (.t 17) (.c (.bool true)) (.t 20)) 8 true,pa 22 14 21,c1 23 89 22] (sr [ci 3 0] (.seq (sr [mm 24 0,oo 25 (.s2b (.t 24)),nn 26 false 25,ci 27 0] (.block 0 (.loop dc90l0))) (sr [mm 45 3,mm 2 45] .ret)))))
def fn90:Fn Qc 90 46 dc90 [.t 2]:=Am func90
def dc357:DC:=(sr [ci 2 0] (.seq (.block 0 (sr [mm 4 0,bu 5 .geq 4 48,mm 6 5,gm 7 0 2 true,gu 8 .leq 7 57 2 true,pa 9 6 8,mm 3 9] (cd 3 (sr [mm 10 0,bu 11 .sub 10 48,oo 12 (.conv .i64 (.t 11)),mm 2 12] .ret) (sr [mm 14 0,bu 15 .geq 14 97,mm 16 15,gm 17 0 2 true,gu 18 .leq 17 102 2 true,pa 19 16 18,mm 13 19] (cd 13 (sr [mm 20 0,bu 21 .sub 20 97,oo 22 (.conv .i64 (.t 21)),bi 23 .add 22 10,mm 2 23] .ret) .skip))))) (sr [oo 2 (.mv (.c (.int .i64 (-1))))] .ret)))
def fn357:Fn Qc 357 24 dc357 [.t 2]:=Am func357
def dc289l0:DC:=(.seq (sr [mm 16 5,mm 17 0,nn 18 true 17,bt 19 .lss 16 18] (cd 19 .skip (.exit 0))) (.seq (.block 1 (.seq (.drawn [mm 22 0,mm 23 5,oo 24 (.idxs (.t 22) (.t 23)),c1 25 357 24,mm 26 0,mm 27 5,bi 28 .add 27 1,oo 29 (.idxs (.t 26) (.t 28)),c1 30 357 29,mm 6 25,mm 7 30] []) (.seq (sr [mm 31 6,bi 32 .lss 31 0,mm 33 32,gm 34 7 2 false,gi 35 .lss 34 0 2 false,po 36 33 35] (cd 36 (sr [cs 2 [],cb 3 false] .ret) .skip)) (.row [mm 37 4,mm 38 6,oo 39 (.bin .shl (.t 38) (.c (.int .u64 4))),mm 40 7,bt 41 .or 39 40,oo 42 (.conv .u8 (.t 41)),bl 43 5 1 42,ap 44 5 1 1 37 43,mm 4 44])))) (.row [mm 20 5,bi 21 .add 20 2,mm 5 21])))
def dc289:DC:=(sr [cs 2 [],cb 3 false] (.seq (sr [mm 8 0,nn 9 true 8,bi 10 .rem 9 2,bi 11 .neq 10 0] (cd 11 (sr [cs 2 [],cb 3 false] .ret) .skip)) (sr [mm 12 0,nn 13 true 12,bi 14 .quo 13 2,oo 15 (.mksl 5 1 1 (.int .u8 0) (.c (.int .i64 0)) (.t 14)),mm 4 15] (.seq (sr [ci 5 0] (.block 0 (.loop dc289l0))) (sr [mm 45 4,oo 46 (.b2s (.t 45)),mm 2 46,cb 3 true] .ret)))))
def fn289:Fn Qc 289 47 dc289 [.t 2,.t 3]:=Am func289
def dc187:DC:=(sr [cs 2 []] (.seq (sr [mm 5 0,bs 6 .eql 5 [45]] (cd 6 (sr [cs 2 []] .ret) .skip)) (sr [mm 8 0,c1 9 289 8,mm 7 9,xx 10 0 7,xx 11 1 7,mm 3 10,mm 4 11] (sr [mm 12 4,mm 13 12,gm 14 0 1 true,gs 15 .neq 14 [] 1 true,pa 16 13 15,c1 17 89 16] (sr [mm 18 3,mm 2 18] .ret)))))
def fn187:Fn Qc 187 19 dc187 [.t 2]:=Am func187
def dc290:DC:=(sr [cb 2 false] (sr [mm 3 0,bs 4 .eql 3 [48],mm 5 4,gm 6 0 2 false,gs 7 .eql 6 [49] 2 false,po 8 5 7,c1 9 89 8] (sr [mm 10 0,bs 11 .eql 10 [49],mm 2 11] .ret)))
def fn290:Fn Qc 290 12 dc290 [.t 2]:=Am func290
def dc408:DC:=(sr [cb 4 false] (sr [mm 5 0,nn 6 true 5,mm 7 1,nn 8 true 7,bt 9 .geq 6 8,mm 10 9,gm 11 0 5 true,gm 12 0 5 true,gn 13 true 12 5 true,gm 14 1 5 true,gn 15 true 14 5 true,gt 16 .sub 13 15 5 true,og 17 (.cuts (.t 11) (some (.t 16)) none) 5 true,gm 18 1 5 true,gt 19 .eql 17 18 5 true,pa 20 10 19,mm 4 20] .ret))
def fn408:Fn Qc 408 21 dc408 [.t 4]:=Am func408
def dc394:DC:=(sr [cs 4 [],cb 5 false] (.seq (sr [mm 6 0,mm 7 1,c2 8 408 6 7,nt 9 8] (cd 9 (sr [mm 10 0,mm 4 10,cb 5 false] .ret) .skip)) (sr [mm 11 0,mm 12 0,nn 13 true 12,mm 14 1,nn 15 true 14,bt 16 .sub 13 15,oo 17 (.cuts (.t 11) none (some (.t 16))),mm 4 17,cb 5 true] .ret)))
def fn394:Fn Qc 394 18 dc394 [.t 4,.t 5]:=Am func394
def dc358:DC:=(sr [cs 4 [],cb 5 false] (sr [mm 6 0,mm 7 1,c2 8 394 6 7,xx 9 0 8,xx 10 1 8,mm 4 9,mm 5 10] .ret))
def fn358:Fn Qc 358 11 dc358 [.t 4,.t 5]:=Am func358
def dc291:DC:=(sr [al 2 [zi,zb,zb]] (sr [mm 6 0,cc 7 358 [(.t 6),(.c (.str [35]))],mm 5 7,xx 8 0 5,xx 9 1 5,mm 0 8,mm 3 9] (sr [mm 11 0,cc 12 358 [(.t 11),(.c (.str [33]))],mm 10 12,xx 13 0 10,xx 14 1 10,mm 0 13,mm 4 14] (sr [mm 15 0,c1 16 90 15,mm 17 4,mm 18 3,oo 19 (.build [zi,zb,zb] [(0,1,(.t 16)),(1,1,(.t 17)),(2,1,(.t 18))]),st 3 2 19] .ret))))
def fn291:Fn Qc 291 20 dc291 [.cell (some 3) 2]:=Am func291
def dc188l0:DC:=(sr [bt 30 .lss 29 28] (.seq (cd 30 .skip (.exit 0)) (.seq (.block 1 (sr [ii 31 1 27 29,ll 32 31,mm 5 32] (.drawn [ff 33 3 3,ll 34 33,mm 35 5,c1 36 291 35,bl 37 228 3 36,ap 38 228 3 16 34 37,ff 39 3 3,st 1 39 38] [(3,1),(4,1)]))) (.row [bi 40 .add 29 1,mm 29 40]))))
def dc188:DC:=(sr [al 2 [zi,zb,zi,zn]] (.seq (.drawn [mm 6 0,oo 7 (.iaddr 1 (.t 6) (.c (.int .i64 0))),ll 8 7,c1 9 90 8,mm 10 0,oo 11 (.iaddr 1 (.t 10) (.c (.int .i64 1))),ll 12 11,c1 13 290 12,mm 14 0,oo 15 (.iaddr 1 (.t 14) (.c (.int .i64 2))),ll 16 15,c1 17 90 16,oo 18 (.build [zi,zb,zi,zn] [(0,1,(.t 9)),(1,1,(.t 13)),(2,1,(.t 17))]),al 3 [zi,zb,zi,zn],st 4 3 18] [(3,6),(3,10),(3,13),(7,10),(7,13),(11,13),(13,2),(13,3),(13,6),(13,7),(13,10),(13,11)]) (.seq (sr [mm 19 0,oo 20 (.iaddr 1 (.t 19) (.c (.int .i64 3))),ll 21 20,bs 22 .eql 21 [45]] (cd 22 (sr [lk 23 4 3,st 4 2 23] .ret) .skip)) (.seq (sr [mm 24 0,oo 25 (.iaddr 1 (.t 24) (.c (.int .i64 3))),ll 26 25,cc 27 88 [(.t 26),(.c (.str [44]))],nn 28 false 27,ci 29 0] (.block 0 (.loop dc188l0))) (sr [lk 41 4 3,st 4 2 41] .ret)))))
def fn188:Fn Qc 188 42 dc188 [.cell (some 4) 2]:=Am func188
def dc91:DC:=(sr [al 2 [zu,zi,zi,zs,zn,zi,zb,zi,zn,zb]] (.seq (.block 0 (sr [mm 4 0,nn 5 false 4,bi 6 .eql 5 0,mm 3 6] (cd 3 (sr [oo 7 (.build [zu,zi,zi,zs,zn,zi,zb,zi,zn,zb] [(0,1,(.c (.int .u8 1)))]),st 10 2 7] .ret) (sr [mm 9 0,nn 10 false 9,bi 11 .eql 10 1,mm 8 11] (cd 8 (sr [mm 12 0,oo 13 (.iaddr 1 (.t 12) (.c (.int .i64 0))),ll 14 13,bs 15 .eql 14 [115,101,97,108,101,100],mm 16 15,gm 17 0 4 false,og 18 (.iaddr 1 (.t 17) (.c (.int .i64 0))) 4 false,gl 19 18 4 false,gs 20 .eql 19 [111,112,101,110] 4 false,po 21 16 20,c1 22 89 21] (sr [mm 23 0,oo 24 (.iaddr 1 (.t 23) (.c (.int .i64 0))),ll 25 24,bs 26 .eql 25 [115,101,97,108,101,100],oo 27 (.build [zu,zi,zi,zs,zn,zi,zb,zi,zn,zb] [(0,1,(.c (.int .u8 6))),(9,1,(.t 26))]),st 10 2 27] .ret)) (sr [mm 29 0,nn 30 false 29,bi 31 .eql 30 2,mm 32 31,gm 33 0 3 true,og 34 (.iaddr 1 (.t 33) (.c (.int .i64 0))) 3 true,gl 35 34 3 true,gs 36 .eql 35 [110,117,109,98,101,114] 3 true,pa 37 32 36,mm 28 37] (cd 28 (sr [mm 38 0,oo 39 (.iaddr 1 (.t 38) (.c (.int .i64 1))),ll 40 39,c1 41 90 40,oo 42 (.build [zu,zi,zi,zs,zn,zi,zb,zi,zn,zb] [(0,1,(.c (.int .u8 2))),(2,1,(.t 41))]),st 10 2 42] .ret) (sr [mm 44 0,nn 45 false 44,bi 46 .eql 45 3,mm 47 46,gm 48 0 3 true,og 49 (.iaddr 1 (.t 48) (.c (.int .i64 0))) 3 true,gl 50 49 3 true,gs 51 .eql 50 [102,111,117,110,100] 3 true,pa 52 47 51,mm 43 52] (cd 43 (.seq (.drawn [mm 53 0,oo 54 (.iaddr 1 (.t 53) (.c (.int .i64 1))),ll 55 54,c1 56 90 55,mm 57 0,oo 58 (.iaddr 1 (.t 57) (.c (.int .i64 2))),ll 59 58,c1 60 187 59,oo 61 (.build [zu,zi,zi,zs,zn,zi,zb,zi,zn,zb] [(0,1,(.c (.int .u8 3))),(2,1,(.t 56)),(3,1,(.t 60))]),st 10 2 61] [(3,6)]) .ret) (sr [mm 63 0,nn 64 false 63,bi 65 .eql 64 5,mm 66 65,gm 67 0 3 true,og 68 (.iaddr 1 (.t 67) (.c (.int .i64 0))) 3 true,gl 69 68 3 true,gs 70 .eql 69 [97,98,111,117,116] 3 true,pa 71 66 70,mm 62 71] (cd 62 (sr [mm 72 0,oo 73 (.cutl 1 (.t 72) (some (.c (.int .i64 1))) none),c1 74 188 73,oo 75 (.build [zu,zi,zi,zs,zn,zi,zb,zi,zn,zb] [(0,1,(.c (.int .u8 4))),(5,4,(.t 74))]),st 10 2 75] .ret) .skip))))))))))) (sr [mm 76 0,nn 77 false 76,bi 78 .eql 77 2,mm 79 78,gm 80 0 3 true,og 81 (.iaddr 1 (.t 80) (.c (.int .i64 0))) 3 true,gl 82 81 3 true,gs 83 .eql 82 [110,97,109,101,115] 3 true,pa 84 79 83,c1 85 89 84] (.seq (sr [mm 86 0,oo 87 (.iaddr 1 (.t 86) (.c (.int .i64 1))),ll 88 87,bs 89 .eql 88 [45]] (cd 89 (sr [oo 90 (.build [zu,zi,zi,zs,zn,zi,zb,zi,zn,zb] [(0,1,(.c (.int .u8 5)))]),st 10 2 90] .ret) .skip)) (sr [mm 91 0,oo 92 (.iaddr 1 (.t 91) (.c (.int .i64 1))),ll 93 92,cc 94 88 [(.t 93),(.c (.str [44]))],oo 95 (.build [zu,zi,zi,zs,zn,zi,zb,zi,zn,zb] [(0,1,(.c (.int .u8 5))),(4,1,(.t 94))]),st 10 2 95] .ret)))))
def fn91:Fn Qc 91 96 dc91 [.cell (some 10) 2]:=Am func91
end Go.Vd
namespace Go.Vd
open Go.RowKit
structure Swaps (p:Id->Id):Prop where
 inv:∀i,p (p i)=i
 nil:p []=[]
def Swaps.inj{p:Id->Id}(h:Swaps p){i j:Id}(e:p i=p j):i=j:=by rw[←h.inv i,e,h.inv]
def Swaps.nn{p:Id->Id}(h:Swaps p){i:Id}(e:p i≠[]):i≠[]:=λhi=>e (by rw[hi,h.nil])
section
variable{P:Program}{S:Summs}{f:FuncId}{N:Nat}{dc:DC}{rs:List RV}
end
section
variable{P:Program}{f:FuncId}
def trueF:List D->Option D
 |[]=>some (.bool true)
 |_=>none
end
def Dr(e:Nat):Summ where
 rd:=λ_ _=>[]
 ex:=λds _ fr=>match ds with
  |[.slice true _ [],.int .i64 k]=>if 0<k∧k<=1000000 then some (.slice false (0::fr) [],[(0::fr,0,[.tok (e+1)])])else none
  |_=>none
def grow_ok {P:Program} {f:FuncId} {e sz:Nat} (ent:∃fn,P.funcs[f]?=some fn∧fn.body.isSome=true∧(fn.name== "runtime.NumGoroutine")=false) (hsz:0<sz)
  (hi:∃ti z,P.info? e=some ti∧ti.size=sz∧ti.zero=some z∧z.cells.size=sz)
  (walk:∀(w:World)(k:Nat),0<k->k<=1000000->Calls P f #[.slice none 0 0,.int .i64 (k:Int)] w λev w'=>∃c cs,c<=maxLen∧cs.size=c*sz∧ev= .returned (.slice (some ⟨w.heap.size,0,none⟩) 0 c)∧w'=w.drew.alloc (.cells cs e)):(Dr e).ok P f:=by
 refine⟨ent,λds m m' fr _=>rfl,?_⟩;intro B w0 w m g fr ds vs r u hinv hfresh hl hrep hex;simp only[Dr]at hex;split at hex
 ·rename_i t k;split at hex
  ·rename_i hc;obtain⟨hk0,hk⟩:=hc;simp only[Qb,Qh]at hex;obtain⟨rfl,rfl⟩:=hex
   match vs,hl with
   |[v0,v1],_=>
    have hr0:=hrep 0 _ v0 rfl rfl;have hr1:=(hrep 1 _ v1 rfl rfl).int_inv;subst hr1;have e0:v0= .slice none 0 0:=by
     rcases hr0.slice_inv with ⟨_,_,e⟩|⟨h,_⟩
     ·exact e
     ·cases h
    subst e0;have hkn:((k.toNat:Nat):Int)=k:=Int.toNat_of_nonneg (by omega);have hw:=walk w k.toNat (by omega) (by omega);rw[hkn]at hw;refine hw.mono ?_;rintro ev w' ⟨c,cs,hcm,hcs,rfl,rfl⟩;have hf0:=hfresh (0::fr) (Qs 0 fr);have hinv':=(hinv.drew).newTok hf0 (e:=e) (n:=0) (c:=c) (sz:=sz) (cur:=cs) hsz hi (Qq _) hcm hcs;have hext:=(Ext.drew w g).trans (Ext.newTok (w:=w.drew) (t:=0::fr) (n:=0) (c:=c) (sz:=sz) (Obj.cells cs e) hinv.drew.gz hf0.2.2 rfl);refine⟨_,_,rfl,hinv',hext,?_,λi hf hn=>CA hf (λh=>hn ((Qs 0 fr).trans h)) _ _ _ _ _⟩;exact Rep.ofRow (sz:=sz) (xs:=[]) (vs:=[]) (cur:=cs) (T:=e) (fz:=(0,0)) (heap_alloc_new w.drew _) rfl (Qq _) (λd hd=>by cases hd) (A1.nil _ _) (λj v hv=>by simp at hv) (by simp) (λ_=>by simp[Gh.tok]) (λd hd=>by cases hd)
  ·cases hex
 ·cases hex
def En:List D->Option (List D)
 |[]=>some []
 | .slice _ _ xs::r=>(En r).map (xs++·)
 |_=>none
def isStrD:D->Bool
 | .str _=>true
 |_=>false
def strOf:D->List UInt8
 | .str s=>s
 |_=>[]
def rep_own{P:Program}{B:Nat}{w0 w w':World}{m:Mem}{g:Gh}{e n:Nat}{v:Value}{xs:List D}(hi:InvM P B w0 m w g)(hb:Below w.heap.size w w')(hx:xs.all isStrD=true)(hn:n=xs.length)
  (ho:w'.ownsRow w.heap.size e 1 v n (xs.map λd=>Value.string ⟨(strOf d).toArray⟩)) (hv:v≠ .slice none 0 0):Rep w' (g.over w w') (.slice false [] xs) v:=by
 obtain⟨h1,h2⟩:=ho;rcases h2 with ⟨h2,_⟩|⟨b,cap,cur,rfl,hbase,hh,hnc,hcm,hsz,htk⟩
 ·exact absurd h2 hv
 ·have hcells:∀d∈xs,d.cells.length=1∧d.calm=true:=by
   intro d hd;have:=Qr.1 hx d hd;unfold isStrD at this;split at this
   ·exact⟨rfl,rfl⟩
   ·cases this
  have hreps:A1 w' (g.over w w') (flat xs) (xs.map λd=>Value.string ⟨(strOf d).toArray⟩):=by
   clear hn h1 htk hv;induction xs with
   |nil=>exact A1.nil _ _
   |cons x r ih=>
    simp only[List.all_cons,QS]at hx;have ihr:=ih hx.2 (λd hd=>hcells d (Qz _ hd))
    match x,hx.1 with
    | .str s,_=>exact A1.append (A1.one (.str s) rfl) ihr
  refine Rep.ofRow (sz:=1) (vs:=xs.map λd=>Value.string ⟨(strOf d).toArray⟩) hh hn hnc (λd hd=>(hcells d hd).1) hreps (λj v hv=>?_) ?_ (λh=>absurd rfl h) (λd hd=>(hcells d hd).2)
  ·rw[←htk]at hv;have hj:j<n*1:=by
    rcases Nat.lt_or_ge j (n*1)with h|h
    ·exact h
    ·rw[Q8 (by simp;omega)]at hv;cases hv
   rw[Qp hj]at hv;simpa using hv
  ·simp only[Gh.over];rw[if_neg (by omega),hh];show n*1<=cur.size;omega
mutual
def D.off(i:Id):D->Bool
 | .ptr j _=>j !=i
 | .row j _=>j !=i
 | .agg cs=>D.offL i cs
 | .tup cs=>D.offL i cs
 | .fn _ cs=>D.offL i cs
 |_=>true
def D.offL(i:Id):List D->Bool
 |[]=>true
 |d::r=>D.off i d&&D.offL i r
end
def offL_all{i:Id}:∀{l:List D},D.offL i l=true↔∀d∈l,d.off i=true
 |[]=>by simp[D.offL]
 |d::r=>by simp only[D.offL,QS,offL_all,QK,forall_eq_or_imp]
def offL_of{i:Id}{w:World}{g:Gh}{ds:List D}{vs:List Value}(hl:vs.length=ds.length)(h:∀(j:Nat) d v,ds[j]?=some d->vs[j]?=some v->d.off i=true):D.offL i ds=true:=by
 rw[offL_all];intro d hd;obtain⟨j,hj,rfl⟩:=QX hd;exact h j _ vs[j] (Qd hj) (Qd (by omega))
def Rep.off{w:World}{g:Gh}{i:Id}(hi:g.dl i=none){d:D}{v:Value}(h:Rep w g d v):d.off i=true:=by
 induction h with
 |ptr j o b h1=>
  simp only[D.off,bne_iff_ne,ne_eq];rintro rfl;rw[hi]at h1;cases h1
 |row j n c b h0 h1=>
  simp only[D.off,bne_iff_ne,ne_eq];rintro rfl;rw[hi]at h1;cases h1
 |agg ds vs h1 h2 h3 ih=>simp only[D.off];exact offL_of (w:=w) (g:=g) h1 ih
 |tup ds vs h1 h2 ih=>simp only[D.off];exact offL_of (w:=w) (g:=g) h1 ih
 |fn f ds vs h1 h2 ih=>simp only[D.off];exact offL_of (w:=w) (g:=g) h1 ih
 |_=>rfl
def Rep.drop{w:World}{g g':Gh}{i:Id}(hdl:∀j b,j≠i->g.dl j=some b->g'.dl j=some b)(hG:∀b,g.G b<=g'.G b)(htb:∀j x,g.tb j=some x->g'.tb j=some x){d:D}{v:Value}(h:Rep w g d v)(ho:d.off i=true):Rep w g' d v:=by
 have calm:∀{d:D} {v:Value},Rep w g d v->d.calm=true->Rep w g' d v:=λh hc=>h.calm_to hc (λ_ _=>rfl) hG
 have cf:∀{xs:List D},(∀d∈xs,d.calm=true)->∀d∈flat xs,d.calm=true:=λh9 d hd=>by
  have:=calm_flat h9 d hd
  first|exact this|(cases d<;>simp_all [D.calm,D.calm1])
 induction h with
 |junk v=>exact .junk v
 |bool b=>exact .bool b
 |int k n=>exact .int k n
 |str s=>exact .str s
 |nils t=>exact .nils _
 |slice t xs a n c sz vv h1 h2 h3 h4 h5 h6 h7 h8 h9 ih=>
  refine .slice t xs a n c sz vv h1 h2 h3 h4 h5 (λj d hd=>calm (h6 j d hd) (cf h9 d (Qi hd))) (λh=>Q_ (h7 h) (hG _)) (λht=>?_) h9;obtain⟨q1,q2,q3⟩:=h8 ht;exact⟨q1,q2,htb _ _ q3⟩
 |ptr j o b h1=>exact .ptr j o b (hdl j b (by simpa[D.off]using ho) h1)
 |row j n c b h0 h1=>exact .row j n c b h0 (hdl j b (by simpa[D.off]using ho) h1)
 |eptr ds a vv h1 h2 h3 h4 h5=>exact .eptr ds a vv h1 h2 (λj d hd=>calm (h3 j d hd) (h5 d (Qi hd))) (λh=>Q_ (h4 h) (hG _)) h5
 |nilp=>exact .nilp
 |agg ds vs h1 h2 h3 ih=>
  simp only[D.off,offL_all]at ho;exact .agg _ vs h1 h2 (λj d v hd hv=>ih j d v hd hv (ho d (Qi hd)))
 |tup ds vs h1 h2 ih=>
  simp only[D.off,offL_all]at ho;exact .tup _ vs h1 (λj d v hd hv=>ih j d v hd hv (ho d (Qi hd)))
 |iface t d v h1 h2 ih=>exact .iface t d v h1 (calm h2 h1)
 |nili=>exact .nili
 |fn f ds vs h1 h2 ih=>
  simp only[D.off,offL_all]at ho;exact .fn f _ vs h1 (λj d v hd hv=>ih j d v hd hv (ho d (Qi hd)))
 |nilf=>exact .nilf
 |nilm=>exact .nilm
 |itp j b h1=>exact .itp j b (htb _ _ h1)
def calm_off{i:Id}{d:D}(h:d.calm1=true):d.off i=true:=by
 cases d with
 |fn f cs=>
  have:cs=[]:=by simpa[D.calm1]using h
  subst this;rfl
 |_=>first|rfl|(simp[D.calm1]at h;done)
def upd_old:∀{u:Upd} {m:Mem} {i:Id} {o:Nat} {d:D},(∀p∈u,∀x∈p.2.2,x.calm1=true)->Upd.app m u i o=some d->d.calm1=true∨m i o=some d
 |[],m,i,o,d,_,h=> .inr h
 |(j,k,ds)::u,m,i,o,d,hu,h=>by
  rcases upd_old (u:=u) (λp hp=>hu p (Qz _ hp)) h with h1|h1
  ·exact .inl h1
  ·by_cases hc:i=j∧k<=o∧o<k+ds.length
   ·left;have:m.put j k ds i o=ds[o-k]?:=by unfold Mem.put;rw[if_pos hc]
    rw[this]at h1;exact hu _ (QL ..) d (Qi h1)
   ·right;have:m.put j k ds i o=m i o:=by unfold Mem.put;rw[if_neg hc]
    rw[←this];exact h1
def upd_out:∀{u:Upd} {m:Mem} {i:Id} {o:Nat},(∀p∈u,p.1≠i)->Upd.app m u i o=m i o
 |[],m,i,o,_=>rfl
 |(j,k,ds)::u,m,i,o,hu=>by
  have h1:=upd_out (u:=u) (m:=m.put j k ds) (i:=i) (o:=o) (λp hp=>hu p (Qz _ hp));have h2:i≠j:=λe=>hu _ (QL ..) e.symm
  exact h1.trans (Mem.put_other h2)
def flat_id:∀{xs:List D},(∀x∈xs,x.cells=[x])->flat xs=xs
 |[],_=>rfl
 |x::r,h=>by
  rw[flat,h x (QL ..),flat_id λy hy=>h y (Qz _ hy)];rfl
section
variable{P:Program}{B:Nat}{w0 w:World}{m:Mem}{g:Gh}{S:Summs}{f:FuncId}{N:Nat}{dc:DC}{rs:List RV}
def Gh.settle(g:Gh)(i:Id)(b n:Nat):Gh:={g with dl:=λj=>if j=i then none else g.dl j,G:=λb'=>if b'=b then n else g.G b'}
theorem opn_row (hS : Summs.ok P S) (hf : Fn P f N dc rs) {q : Summ} (hloc : ∀ ds m m' fr, (∀ l ∈ q.rd ds m, m l.1 l.2 = m' l.1 l.2) → q.ex ds m fr = q.ex ds m' fr)
  (hq : ∀ ds m fr r u, q.ex ds m fr = some (r, u) → (∀ i o, fr <:+ i → m i o = none) → ds.length ≤ N ∧ (∀ p ∈ u, ¬ fr <:+ p.1 ∧ ∀ x ∈ p.2.2, x.calm1 = true) ∧ ∃ xs, r = .slice false [] xs ∧ (∀ x ∈ xs, x.calm = true ∧ x.cells = [x]) ∧
   dc.wp S fr (DO rs fun d m' => ∃ i, d = .row i xs.length ∧ fr <:+ i ∧ (∀ (j : Nat) x, xs[j]? = some x → m' i j = some x) ∧ ∀ i o x, Upd.app m u i o = some x → m' i o = some x) ⟨Bx ds, m, 0⟩) : q.ok P f := by
 obtain ⟨fn, code, h1, h2, h3, h4, h5, h6⟩ := hf.is
 refine ⟨⟨fn, h1, by rw [h2]; rfl, h3⟩, hloc, ?_⟩
 intro B w0 w m g fr ds vs r u hi hfresh hl hrep hex
 have hfr : ∀ k i, (k :: fr) <:+ i → BO m g i := fun k i h => hfresh i ((Qs k fr).trans h)
 obtain ⟨hN, hu, xs, rfl, hxs, hwp⟩ := hq ds m fr r u hex (fun i o h => (hfresh i h).1 o)
 have hcalls := FO (ns := fr) hS hf hN hi hfr hl hrep hwp
 refine hcalls.mono ?_
 rintro e w' ⟨v, d, m', g', rfl, hinv, hext, hkeep, hrd, i, rfl, hsuf, hcell, hle⟩
 obtain ⟨b, cap, rfl, hcap, hb⟩ := hrd.row_inv
 obtain ⟨hBb, hGb, cur, T, hheap, hobj⟩ := hinv.obj i b hb
 have hi0 : g.dl i = none := (hfresh i hsuf).2.1
 have hGle : ∀ b', g'.G b' ≤ (g'.settle i b xs.length).G b' := by
  intro b'
  simp only [Gh.settle]
  split
  ·rename_i e; rw [e, hGb]; exact Qq _
  ·exact Qo _
 have hdrop : ∀ {d : D} {v : Value}, Rep w' g' d v → d.off i = true → Rep w' (g'.settle i b xs.length) d v := fun h ho =>
  h.drop (i := i) (fun j b' hj e => by simp only [Gh.settle]; rw [if_neg hj]; exact e) hGle (fun _ _ e => e) ho
 have base := hinv.less hle
 have hnone : ∀ o, Upd.app m u i o = none := fun o => by
  rw [upd_out (fun p hp e => (hu p hp).1 (e ▸ hsuf))]; exact (hfresh i hsuf).1 o
 have hoff : ∀ j o d, Upd.app m u j o = some d → d.off i = true := by
  intro j o d hd
  rcases upd_old (fun p hp => (hu p hp).2) hd with h | h
  ·exact calm_off h
  ·cases hdl : g.dl j with
   | none =>
    have hk := hi.kind j o d h hdl
    cases d <;> first | rfl | cases hk
   | some b' =>
    obtain ⟨_, _, vs', _, _, hr⟩ := hi.obj j b' hdl
    obtain ⟨v', _, _, hr'⟩ := hr o d h
    exact hr'.off hi0
 have hfin : InvM P B w0 (Upd.app m u) w' (g'.settle i b xs.length) := by
  refine ⟨hinv.below, hinv.size, fun b' hb' => ?_, fun b' hb' => ?_, fun j b' hj => ?_, fun j j' b' e1 e2 => ?_, fun j o d hm hn => ?_, fun j e hm => ?_, base.tinj, base.itr.to (fun _ _ _ e => e) fun j b1 s p _ _ _ e1 e2 e3 => ?_⟩
  rotate_right
  ·have hbb : b1 ≠ b := fun e' => e3 i (e' ▸ hb)
   refine ⟨rfl, rfl, by simp only [Gh.settle]; rw [if_neg hbb]; exact e2, fun i' h' => ?_⟩
   simp only [Gh.settle] at h'
   split at h'
   ·cases h'
   ·exact e3 i' h'
  ·simp only [Gh.settle]
   have : b < w'.heap.size := (Qx.1 hheap).1
   rw [if_neg (by omega)]; exact hinv.gz b' hb'
  ·simp only [Gh.settle]; rw [if_neg (by omega)]; exact hinv.old b' hb'
  ·simp only [Gh.settle] at hj
   split at hj
   ·cases hj
   ·rename_i hne
    obtain ⟨p, q, vs', T', hh, r⟩ := base.obj j b' hj
    have hbb : b' ≠ b := fun e => hne (hinv.inj j i b (e ▸ hj) hb)
    refine ⟨p, by simp only [Gh.settle]; rw [if_neg hbb]; exact q, vs', T', hh, fun o d hm => ?_⟩
    obtain ⟨v', r1, r2, r3⟩ := r o d hm
    exact ⟨v', r1, r2, hdrop r3 (hoff j o d hm)⟩
  ·simp only [Gh.settle] at e1 e2
   split at e1
   ·cases e1
   ·split at e2
    ·cases e2
    ·exact hinv.inj j j' b' e1 e2
  ·by_cases hji : j = i
   ·subst hji; rw [hnone o] at hm; cases hm
   ·simp only [Gh.settle, if_neg hji] at hn
    exact base.kind j o d hm hn
  ·obtain ⟨b1, n, c, sz, cur', t1, t2, t3, t4, t5, t6, t7, t8, t9, t10⟩ := base.tok j e hm
   have hbb : b1 ≠ b := fun e' => t10 i (e' ▸ hb)
   refine ⟨b1, n, c, sz, cur', t1, t2, t3, t4, t5, t6, t7, t8, by simp only [Gh.settle]; rw [if_neg hbb]; exact t9, fun i' h' => ?_⟩
   simp only [Gh.settle] at h'
   split at h'
   ·cases h'
   ·exact t10 i' h'
 have hvl : ∀ (j : Nat), j < xs.length → ∃ v, cur[j]? = some v ∧ v.oneCell' = true ∧ ∃ x, xs[j]? = some x ∧ Rep w' g' x v := by
  intro j hj
  obtain ⟨v', r1, r2, r3⟩ := hobj j xs[j] (hcell j _ (Qd hj))
  exact ⟨v', r1, r2, _, Qd hj, r3⟩
 have hsz : xs.length ≤ cur.size := by
  rcases Nat.eq_zero_or_pos xs.length with h | h
  ·omega
  ·obtain ⟨v', r1, _⟩ := hvl (xs.length - 1) (by omega)
   have := (Qx.1 r1).1
   omega
 have hcalm : ∀ x ∈ xs, x.calm = true := fun x hx => (hxs x hx).1
 have hfl : flat xs = xs := flat_id fun x hx => (hxs x hx).2
 have hreps : A1 w' (g'.settle i b xs.length) (flat xs) (cur.toList.take xs.length) := by
  rw [hfl]
  refine ⟨by simp; omega, fun v hv => ?_, fun j x v hx hv => ?_⟩
  ·obtain ⟨j, hj, rfl⟩ := QX hv
   have hj' : j < xs.length := Q1 hj (Zb _ _)
   obtain ⟨v', r1, r2, _⟩ := hvl j hj'
   have : (cur.toList.take xs.length)[j]? = some v' := by rw [Qp hj']; simpa using r1
   rw [Qd hj] at this
   rw [QD this]; exact r2
  ·have hj' : j < xs.length := (QH.1 hx).1
   obtain ⟨v', r1, r2, x', hx', r3⟩ := hvl j hj'
   rw [hx] at hx'; obtain rfl := QD hx'
   have : (cur.toList.take xs.length)[j]? = some v' := by rw [Qp hj']; simpa using r1
   rw [hv] at this; obtain rfl := QD this
   exact r3.calm_to (hcalm x (Qi hx)) (fun _ _ => rfl) hGle
 refine ⟨_, g'.settle i b xs.length, rfl, hfin, ⟨hext.cell, fun b' => Q_ (hext.G b') (hGle b'), fun j b' hj => ?_, hext.G0, hext.tb⟩, ?_, fun j hf hn => ?_⟩
 ·simp only [Gh.settle]
  rw [if_neg (fun e => by rw [e, hi0] at hj; cases hj)]; exact hext.dl j b' hj
 ·refine Rep.ofRow (sz := 1) (cur := cur) (vs := cur.toList.take xs.length) hheap rfl hcap (fun d hd => by rw [(hxs d hd).2]; rfl) hreps (fun j v hv => ?_) (by simp [Gh.settle]) (fun h => absurd rfl h) hcalm
  have hj : j < xs.length := Q1 (QH.1 hv).1 (Zb _ _)
  rw [Qp hj] at hv
  simpa using hv
 ·obtain ⟨k1, k2, k3⟩ := hkeep j hf hn
  refine ⟨fun o => ?_, ?_, k3⟩
  ·cases hx : Upd.app m u j o with
   | none => rfl
   | some x => exact absurd (k1 o) (by rw [hle j o x hx]; simp)
  ·simp only [Gh.settle]
   split
   ·rfl
   ·exact k2
end
end Go.Vd
namespace Go.Vd
open Go.Proofs
def dc409:DC:=(sr [cb 2 false] (.seq (.block 0 (.seq (sr [mm 4 0,oo 5 (.bin .geq (.t 4) (.c (.int .i32 97))),mm 6 5,gm 7 0 2 true,og 8 (.bin .leq (.t 7) (.c (.int .i32 122))) 2 true,pa 9 6 8,mm 3 9] (cd 3 .skip (sr [mm 10 0,oo 11 (.bin .geq (.t 10) (.c (.int .i32 65))),mm 12 11,gm 13 0 2 true,og 14 (.bin .leq (.t 13) (.c (.int .i32 90))) 2 true,pa 15 12 14,mm 3 15] (cd 3 .skip (.row [mm 16 0,oo 17 (.bin .geq (.t 16) (.c (.int .i32 48))),mm 18 17,gm 19 0 2 true,og 20 (.bin .leq (.t 19) (.c (.int .i32 57))) 2 true,pa 21 18 20,mm 3 21]))))) (cd 3 (sr [cb 2 true] .ret) (.seq (sr [mm 23 0,oo 24 (.bin .eql (.t 23) (.c (.int .i32 45))),mm 22 24] (cd 22 .skip (sr [mm 25 0,oo 26 (.bin .eql (.t 25) (.c (.int .i32 46))),mm 22 26] (cd 22 .skip (.row [mm 27 0,oo 28 (.bin .eql (.t 27) (.c (.int .i32 95))),mm 22 28]))))) (cd 22 (sr [cb 2 true] .ret) .skip))))) (sr [mm 29 0,oo 30 (.bin .geq (.t 29) (.c (.int .i32 192))),mm 31 30,gm 32 0 2 true,og 33 (.bin .leq (.t 32) (.c (.int .i32 55295))) 2 true,pa 34 31 33,mm 2 34] .ret)))
def fn409:Fn Qc 409 35 dc409 [.t 2]:=Am func409
def dc395l0:DC:=(sr [oo 22 (.next (.t 21)),xx 23 0 22] (.seq (cd 23 .skip (.exit 0)) (.block 1 (sr [xx 24 2 22,mm 5 24] (.seq (sr [mm 25 5,c1 26 409 25,nt 27 26] (cd 27 (sr [ci 2 4] .ret) .skip)) (.row [mm 28 3,bi 29 .add 28 1,mm 3 29]))))))
def dc395:DC:=(sr [ci 2 0] (.seq (sr [mm 6 0,bs 7 .eql 6 [],mm 8 7,gm 9 0 2 false,gs 10 .eql 9 [46] 2 false,po 11 8 10,mm 12 11,gm 13 0 6 false,gs 14 .eql 13 [46,46] 6 false,po 15 12 14,mm 16 15,gm 17 0 10 false,gs 18 .eql 17 [45] 10 false,po 19 16 18] (cd 19 (sr [ci 2 4] .ret) .skip)) (sr [ci 3 0] (.seq (sr [mm 20 0,oo 21 (.range (.t 20))] (.block 0 (.loop dc395l0))) (.seq (sr [mm 30 3,bi 31 .gtr 30 12] (cd 31 (sr [ci 2 5] .ret) .skip)) (sr [ci 2 0] .ret))))))
def fn395:Fn Qc 395 32 dc395 [.t 2]:=Am func395
def dc360l0:DC:=(sr [bt 9 .lss 8 7] (.seq (cd 9 .skip (.exit 0)) (.seq (.block 1 (sr [ii 10 1 6 8,ll 11 10,mm 5 11] (sr [mm 12 5,c1 13 395 12] (.block 2 (sr [bi 15 .eql 13 4,mm 14 15] (cd 14 (sr [ci 2 4] .ret) (sr [bi 17 .eql 13 5,mm 16 17] (cd 16 (.row [ci 3 5]) .skip)))))))) (.row [bi 18 .add 8 1,mm 8 18]))))
def dc360:DC:=(sr [ci 2 0] (sr [ci 3 0] (.seq (sr [mm 6 0,nn 7 false 6,ci 8 0] (.block 0 (.loop dc360l0))) (.seq (sr [mm 19 3,bi 20 .eql 19 0,mm 21 20,gm 22 0 2 true,gn 23 false 22 2 true,gi 24 .gtr 23 6 2 true,pa 25 21 24] (cd 25 (sr [ci 2 24] .ret) .skip)) (sr [mm 26 3,mm 2 26] .ret)))))
def fn360:Fn Qc 360 27 dc360 [.t 2]:=Am func360
def dc300:DC:=(sr [oo 2 (.mv (.c (.slice true [] []))),ci 3 0] (.seq (sr [mm 6 0,nn 7 true 6,bi 8 .gtr 7 64] (cd 8 (sr [oo 2 (.mv (.c (.slice true [] []))),ci 3 5] .ret) .skip)) (sr [mm 9 0,cc 10 88 [(.t 9),(.c (.str [47]))],mm 4 10] (.seq (sr [mm 11 4,c1 12 360 11,mm 5 12] (sr [mm 13 5,bi 14 .neq 13 0] (cd 14 (sr [mm 15 5,oo 2 (.mv (.c (.slice true [] []))),mm 3 15] .ret) .skip))) (sr [mm 16 4,mm 2 16,ci 3 0] .ret)))))
def fn300:Fn Qc 300 17 dc300 [.t 2,.t 3]:=Am func300
def dc201:DC:=(sr [ci 2 0] (sr [mm 6 0,c1 7 300 6,mm 5 7,xx 8 0 5,xx 9 1 5,mm 3 8,mm 4 9] (sr [mm 10 4,mm 2 10] .ret)))
def fn201:Fn Qc 201 11 dc201 [.t 2]:=Am func201
def dc367:DC:=(sr [cb 2 false] (sr [mm 3 0,bi 4 .geq 3 97,mm 5 4,gm 6 0 2 true,gi 7 .leq 6 122 2 true,pa 8 5 7,mm 9 8,gm 10 0 6 false,gi 11 .geq 10 65 6 false,gm 12 11 6 false,gm 13 0 9 true,gi 14 .leq 13 90 9 true,og 15 (.pick (.t 12) (.t 14) (.c (.bool false))) 6 false,po 16 9 15,mm 17 16,gm 18 0 14 false,gi 19 .geq 18 48 14 false,gm 20 19 14 false,gm 21 0 17 true,gi 22 .leq 21 57 17 true,og 23 (.pick (.t 20) (.t 22) (.c (.bool false))) 14 false,po 24 17 23,mm 25 24,gm 26 0 22 false,gi 27 .eql 26 45 22 false,po 28 25 27,mm 29 28,gm 30 0 26 false,gi 31 .eql 30 46 26 false,po 32 29 31,mm 33 32,gm 34 0 30 false,gi 35 .eql 34 95 30 false,po 36 33 35,mm 37 36,gm 38 0 34 false,gi 39 .geq 38 192 34 false,gm 40 39 34 false,gm 41 0 37 true,gi 42 .leq 41 55295 37 true,og 43 (.pick (.t 40) (.t 42) (.c (.bool false))) 34 false,po 44 37 43,mm 2 44] .ret))
def fn367:Fn Qc 367 45 dc367 [.t 2]:=Am func367
def dc398:DC:=(sr [ci 4 0] (sr [mm 5 0,mm 6 1,oo 7 (.idxs (.t 5) (.t 6)),oo 8 (.conv .i64 (.t 7)),bi 9 .sub 8 128,mm 4 9] .ret))
def fn398:Fn Qc 398 10 dc398 [.t 4]:=Am func398
def dc397:DC:=(sr [cb 4 false] (sr [mm 5 1,mm 6 0,nn 7 true 6,bt 8 .lss 5 7,mm 9 8,gm 10 0 4 true,gm 11 1 4 true,og 12 (.idxs (.t 10) (.t 11)) 4 true,gu 13 .geq 12 128 4 true,pa 14 9 13,mm 15 14,gm 16 0 10 true,gm 17 1 10 true,og 18 (.idxs (.t 16) (.t 17)) 10 true,gu 19 .lss 18 192 10 true,pa 20 15 19,mm 4 20] .ret))
def fn397:Fn Qc 397 21 dc397 [.t 4]:=Am func397
def dc366:DC:=(sr [ci 4 0,ci 5 0] (sr [mm 10 0,mm 11 1,oo 12 (.idxs (.t 10) (.t 11)),oo 13 (.conv .i64 (.t 12)),mm 6 13] (.seq (sr [mm 14 6,bi 15 .lss 14 128] (cd 15 (sr [mm 16 6,mm 4 16,ci 5 1] .ret) .skip)) (.seq (sr [mm 17 6,bi 18 .geq 17 192,mm 19 18,gm 20 6 2 true,gi 21 .lss 20 224 2 true,pa 22 19 21,mm 23 22,gm 24 0 6 true,gm 25 1 6 true,gi 26 .add 25 1 6 true,gc 27 397 [(.t 24),(.t 26)] 6 true,pa 28 23 27] (cd 28 (sr [mm 29 6,bi 30 .sub 29 192,oo 31 (.bin .mul (.c (.int .i64 64)) (.t 30)),mm 32 0,mm 33 1,bi 34 .add 33 1,c2 35 398 32 34,bt 36 .add 31 35,mm 7 36] (sr [mm 37 7,bi 38 .geq 37 128] (cd 38 (sr [mm 39 7,mm 4 39,ci 5 2] .ret) .skip))) .skip)) (.seq (sr [mm 40 6,bi 41 .geq 40 224,mm 42 41,gm 43 6 2 true,gi 44 .lss 43 240 2 true,pa 45 42 44,mm 46 45,gm 47 0 6 true,gm 48 1 6 true,gi 49 .add 48 1 6 true,gc 50 397 [(.t 47),(.t 49)] 6 true,pa 51 46 50,mm 52 51,gm 53 0 12 true,gm 54 1 12 true,gi 55 .add 54 2 12 true,gc 56 397 [(.t 53),(.t 55)] 12 true,pa 57 52 56] (cd 57 (sr [mm 58 6,bi 59 .sub 58 224,oo 60 (.bin .mul (.c (.int .i64 4096)) (.t 59)),mm 61 0,mm 62 1,bi 63 .add 62 1,c2 64 398 61 63,oo 65 (.bin .mul (.c (.int .i64 64)) (.t 64)),bt 66 .add 60 65,mm 67 0,mm 68 1,bi 69 .add 68 2,c2 70 398 67 69,bt 71 .add 66 70,mm 8 71] (sr [mm 72 8,bi 73 .geq 72 2048,mm 74 73,gm 75 8 2 true,gi 76 .lss 75 55296 2 true,gm 77 76 2 true,gm 78 8 5 false,gi 79 .gtr 78 57343 5 false,og 80 (.pick (.t 77) (.c (.bool true)) (.t 79)) 2 true,pa 81 74 80] (cd 81 (sr [mm 82 8,mm 4 82,ci 5 3] .ret) .skip))) .skip)) (.seq (sr [mm 83 6,bi 84 .geq 83 240,mm 85 84,gm 86 6 2 true,gi 87 .lss 86 248 2 true,pa 88 85 87,mm 89 88,gm 90 0 6 true,gm 91 1 6 true,gi 92 .add 91 1 6 true,gc 93 397 [(.t 90),(.t 92)] 6 true,pa 94 89 93,mm 95 94,gm 96 0 12 true,gm 97 1 12 true,gi 98 .add 97 2 12 true,gc 99 397 [(.t 96),(.t 98)] 12 true,pa 100 95 99,mm 101 100,gm 102 0 18 true,gm 103 1 18 true,gi 104 .add 103 3 18 true,gc 105 397 [(.t 102),(.t 104)] 18 true,pa 106 101 105] (cd 106 (sr [mm 107 6,bi 108 .sub 107 240,oo 109 (.bin .mul (.c (.int .i64 262144)) (.t 108)),mm 110 0,mm 111 1,bi 112 .add 111 1,c2 113 398 110 112,oo 114 (.bin .mul (.c (.int .i64 4096)) (.t 113)),bt 115 .add 109 114,mm 116 0,mm 117 1,bi 118 .add 117 2,c2 119 398 116 118,oo 120 (.bin .mul (.c (.int .i64 64)) (.t 119)),bt 121 .add 115 120,mm 122 0,mm 123 1,bi 124 .add 123 3,c2 125 398 122 124,bt 126 .add 121 125,mm 9 126] (sr [mm 127 9,bi 128 .geq 127 65536,mm 129 128,gm 130 9 2 true,gi 131 .leq 130 1114111 2 true,pa 132 129 131] (cd 132 (sr [mm 133 9,mm 4 133,ci 5 4] .ret) .skip))) .skip)) (sr [oo 4 (.mv (.c (.int .i64 (-1)))),ci 5 1] .ret)))))))
def fn366:Fn Qc 366 134 dc366 [.t 4,.t 5]:=Am func366
def dc313l0:DC:=(.seq (sr [mm 21 4,mm 22 0,nn 23 true 22,bt 24 .lss 21 23] (cd 24 .skip (.exit 0))) (.block 1 (sr [mm 26 0,mm 27 4,c2 28 366 26 27,mm 25 28,xx 29 0 25,xx 30 1 25,mm 5 29,mm 6 30] (.seq (sr [mm 31 5,c1 32 367 31,nt 33 32] (cd 33 (sr [ci 2 4] .ret) .skip)) (sr [mm 34 3,bi 35 .add 34 1,mm 3 35] (.row [mm 36 4,mm 37 6,bt 38 .add 36 37,mm 4 38]))))))
def dc313:DC:=(sr [ci 2 0] (.seq (sr [mm 7 0,bs 8 .eql 7 [],mm 9 8,gm 10 0 2 false,gs 11 .eql 10 [46] 2 false,po 12 9 11,mm 13 12,gm 14 0 6 false,gs 15 .eql 14 [46,46] 6 false,po 16 13 15,mm 17 16,gm 18 0 10 false,gs 19 .eql 18 [45] 10 false,po 20 17 19] (cd 20 (sr [ci 2 4] .ret) .skip)) (sr [ci 3 0] (.seq (sr [ci 4 0] (.block 0 (.loop dc313l0))) (.seq (sr [mm 39 3,bi 40 .gtr 39 12] (cd 40 (sr [ci 2 5] .ret) .skip)) (sr [ci 2 0] .ret))))))
def fn313:Fn Qc 313 41 dc313 [.t 2]:=Am func313
def dc312l0:DC:=(.seq (sr [mm 6 5,mm 7 0,nn 8 true 7,bt 9 .leq 6 8] (cd 9 .skip (.exit 0))) (.seq (.block 1 (sr [mm 12 5,mm 13 0,nn 14 true 13,bt 15 .eql 12 14,mm 16 15,gm 17 0 4 false,gm 18 5 4 false,og 19 (.idxs (.t 17) (.t 18)) 4 false,gu 20 .eql 19 47 4 false,po 21 16 20] (cd 21 (sr [mm 22 3,mm 23 0,mm 24 4,mm 25 5,oo 26 (.cuts (.t 23) (some (.t 24)) (some (.t 25))),bl 27 9 1 26,ap 28 9 1 16 22 27,mm 3 28] (.row [mm 29 5,bi 30 .add 29 1,mm 4 30])) .skip))) (.row [mm 10 5,bi 11 .add 10 1,mm 5 11])))
def dc312:DC:=(sr [oo 2 (.mv (.c (.slice true [] [])))] (sr [oo 3 (.mv (.c (.slice true [] [])))] (sr [ci 4 0] (.seq (sr [ci 5 0] (.block 0 (.loop dc312l0))) (sr [mm 31 3,mm 2 31] .ret)))))
def fn312:Fn Qc 312 32 dc312 [.t 2]:=Am func312
def dc211l0:DC:=(.seq (sr [mm 12 5,mm 13 3,nn 14 false 13,bt 15 .lss 12 14] (cd 15 .skip (.exit 0))) (.seq (.block 1 (sr [mm 18 3,mm 19 5,ii 20 1 18 19,ll 21 20,c1 22 313 21,mm 6 22] (.seq (sr [mm 23 6,bi 24 .eql 23 4] (cd 24 (sr [ci 2 4] .ret) .skip)) (.row [mm 25 4,mm 26 25,gm 27 6 1 false,gi 28 .eql 27 5 1 false,po 29 26 28,mm 4 29])))) (.row [mm 16 5,bi 17 .add 16 1,mm 5 17])))
def dc211:DC:=(sr [ci 2 0] (.seq (sr [mm 7 0,nn 8 true 7,bi 9 .gtr 8 64] (cd 9 (sr [ci 2 5] .ret) .skip)) (sr [mm 10 0,c1 11 312 10,mm 3 11] (sr [cb 4 false] (.seq (sr [ci 5 0] (.block 0 (.loop dc211l0))) (.seq (sr [mm 30 4] (cd 30 (sr [ci 2 5] .ret) .skip)) (.seq (sr [mm 31 3,nn 32 false 31,bi 33 .gtr 32 6] (cd 33 (sr [ci 2 24] .ret) .skip)) (sr [ci 2 0] .ret))))))))
def fn211:Fn Qc 211 34 dc211 [.t 2]:=Am func211
end Go.Vd
namespace Go.Vd
open Go.Proofs Go.RowKit
def AL{P:Program}:Summs.ok P (λ_=>none):=λf q h=>by cases h
def CV(c:Int):Bool:=decide (97<=c∧c<=122)||decide (65<=c∧c<=90)||decide (48<=c∧c<=57)||decide (c=45)||decide (c=46)||decide (c=95)||decide (192<=c∧c<=55295)
def F409:List D->Option D
 |[.int .i32 c]=>some (.bool (CV c))
 |_=>none
def ok409:(Ac F409).ok Qc 409:=by
 refine Ay (S:=λ_=>none) AL fn409 (λds r h=>?_) (λds r h=>?_)
 ·unfold F409 at h;split at h
  ·simp
  ·cases h
 ·unfold F409 at h;split at h
  ·rename_i c;simp only[Qb]at h;subst h;unfold dc409;simp only[↓go1,go2,simprocAttr]
   repeat' (first|(refine ifQ.intro (λh=>?_) (λh=>?_)<;>try (exfalso;omega))|(simp only[↓go1,gB3,simprocAttr, *]))
   all_goals (rw[D.bool.injEq,Qm];simp[CV];try omega)
  ·cases h
def F367:List D->Option D
 |[.int .i64 c]=>some (.bool (CV c))
 |_=>none
def ok367:(Ac F367).ok Qc 367:=by
 refine Ay (S:=λ_=>none) AL fn367 (λds r h=>?_) (λds r h=>?_)
 ·unfold F367 at h;split at h
  ·simp
  ·cases h
 ·unfold F367 at h;split at h
  ·rename_i c;simp only[Qb]at h;subst h;unfold dc367;simp only[↓go1,go2,simprocAttr]
   repeat' (first|(refine ifQ.intro (λh=>?_) (λh=>?_)<;>try (exfalso;omega))|(simp only[↓go1,gB3,simprocAttr, *]))
   all_goals (rw[D.bool.injEq,Qm];simp[CV];try omega)
  ·cases h
def w64{x:Int}(h1:-9223372036854775808<=x)(h2:x<9223372036854775808):IntKind.i64.wrap x=x:=IntWalk.i64_in _ ⟨h1,by omega⟩
def wJ{j:Nat}(h:j<4611686018427387904):IntKind.i64.wrap ((j:Int)+1)=((j+1:Nat):Int):=w64 (by omega) (by omega)
def nJ{j:Nat}:(0:Int)<=(j:Int):=by omega
abbrev Bs:=List UInt8
def at'(s:Bs)(i:Nat):Nat:=(s.getD i 0).toNat
def at_lt(s:Bs)(i:Nat):at' s i<256:=UInt8.toNat_lt _
def at_some{s:Bs}{i:Nat}(h:i<s.length):∃c,s[i]?=some c∧at' s i=c.toNat:=⟨s[i],Qd h,by simp[at',h]⟩
def Ck(s:Bs)(i:Nat):Bool:=decide (i<s.length)&&decide (128<=at' s i)&&decide (at' s i<192)
def F397:List D->Option D
 |[.str s,.int .i64 i]=>if 0<=i then some (.bool (Ck s i.toNat))else none
 |_=>none
def ok397:(Ac F397).ok Qc 397:=by
 refine Ay (S:=λ_=>none) AL fn397 (λds r h=>?_) (λds r h=>?_)
 ·unfold F397 at h;split at h
  ·simp
  ·cases h
 ·unfold F397 at h;split at h
  ·rename_i s i;split at h
   ·rename_i h0;simp only[Qb]at h;subst h;obtain⟨i,rfl⟩:=Qu h0;unfold dc397;by_cases hi:i<s.length
    ·obtain⟨c,hc,hc2⟩:=at_some hi;have hi':((i:Int)<s.length):=by omega
     simp only[↓go1,go2,go4,simprocAttr,hi',h0,Qe,hc]
     repeat' (first|(refine ifQ.intro (λh=>?_) (λh=>?_)<;>try (exfalso;omega))|(simp only[↓go1,gB3,simprocAttr, *,Qe]))
     all_goals (rw[D.bool.injEq,Qm];simp[Ck,hi,hc2];try omega)
    ·have hi':¬((i:Int)<s.length):=by omega
     simp only[↓go1,gB3,simprocAttr,hi',Qe];simp[Ck,hi]
   ·cases h
  ·cases h
def F398:List D->Option D
 |[.str s,.int .i64 i]=>if 0<=i∧i<s.length then some (.int .i64 ((at' s i.toNat:Int)-128))else none
 |_=>none
def ok398:(Ac F398).ok Qc 398:=by
 refine Ay (S:=λ_=>none) AL fn398 (λds r h=>?_) (λds r h=>?_)
 ·unfold F398 at h;split at h
  ·simp
  ·cases h
 ·unfold F398 at h;split at h
  ·rename_i s i;split at h
   ·rename_i h0;simp only[Qb]at h;subst h;obtain⟨h0,hi⟩:=h0;obtain⟨i,rfl⟩:=Qu h0;unfold dc398;obtain⟨c,hc,hc2⟩:=at_some (s:=s) (i:=i) (by omega);have:=at_lt s i;have w1:IntKind.i64.wrap ((at' s i:Nat):Int)=at' s i:=w64 (by omega) (by omega);have w2:IntKind.i64.wrap ((at' s i:Int)-128)=(at' s i:Int)-128:=w64 (by omega) (by omega);simp only[↓go1,gB3,simprocAttr,h0,Qe,hc,←hc2,w1,w2]
   ·cases h
  ·cases h
def AC:List (FuncId×Summ)->Summs
 |[],_=>none
 |(k,q)::r,f=>if f=k then some q else AC r f
def A7{P:Program}{l:List (FuncId×Summ)}(h:Summs.ok P (AC l)):∃S:Summs,Summs.ok P S∧∀f q,AC l f=some q->S f=some q:=⟨_,h,λ_ _ e=>e⟩
def Ad{P:Program}:Summs.ok P (AC []):=λf q h=>by cases h
def Ab{P:Program}{k:FuncId}{q:Summ}{r:List (FuncId×Summ)}(h:q.ok P k)(hr:Summs.ok P (AC r)):Summs.ok P (AC ((k,q)::r)):=λf q' e=>by
 simp only[AC]at e;split at e
 ·rename_i hf;subst hf;simp only[Qb]at e;subst e;exact h
 ·exact hr f q' e
def Cs(s:Bs)(i:Nat):Int×Nat:=
 let b:=at' s i
 if b<128 then(b,1)
 else if 192<=b∧b<224∧Ck s (i+1)=true∧128<=64*((b:Int)-192)+(at' s (i+1)-128)then(64*((b:Int)-192)+(at' s (i+1)-128),2)
 else if 224<=b∧b<240∧Ck s (i+1)=true∧Ck s (i+2)=true∧2048<=4096*((b:Int)-224)+64*(at' s (i+1)-128)+(at' s (i+2)-128)∧
   (4096*((b:Int)-224)+64*(at' s (i+1)-128)+(at' s (i+2)-128)<55296∨57343<4096*((b:Int)-224)+64*(at' s (i+1)-128)+(at' s (i+2)-128))then
  (4096*((b:Int)-224)+64*(at' s (i+1)-128)+(at' s (i+2)-128),3)
 else if 240<=b∧b<248∧Ck s (i+1)=true∧Ck s (i+2)=true∧Ck s (i+3)=true∧65536<=262144*((b:Int)-240)+4096*(at' s (i+1)-128)+64*(at' s (i+2)-128)+(at' s (i+3)-128)∧
   262144*((b:Int)-240)+4096*(at' s (i+1)-128)+64*(at' s (i+2)-128)+(at' s (i+3)-128)<=1114111 then
  (262144*((b:Int)-240)+4096*(at' s (i+1)-128)+64*(at' s (i+2)-128)+(at' s (i+3)-128),4)
 else(-1,1)
def Cf{s:Bs}{i:Nat}:Ck s i=true↔i<s.length∧128<=at' s i∧at' s i<192:=by simp[Ck,and_assoc]
def F366:List D->Option D
 |[.str s,.int .i64 i]=>if 0<=i∧i<s.length∧s.length<=1000000 then some (.tup [.int .i64 (Cs s i.toNat).1,.int .i64 ((Cs s i.toNat).2:Nat)])else none
 |_=>none
def ok366:(Ac F366).ok Qc 366:=by
 obtain⟨S,hS,hl⟩:=A7 (Ab ok397 (Ab ok398 Ad));have s397:=hl 397 _ rfl;have s398:=hl 398 _ rfl;clear hl;refine Ay (S:=S) hS fn366 (λds r h=>?_) (λds r h=>?_)
 ·unfold F366 at h;split at h
  ·simp
  ·cases h
 ·unfold F366 at h;split at h
  ·rename_i s i;split at h
   ·rename_i h0;simp only[Qb]at h;subst h;obtain⟨h0,hi,hl⟩:=h0;obtain⟨i,rfl⟩:=Qu h0;obtain⟨c,hc,hc2⟩:=at_some (s:=s) (i:=i) (by omega);have b0:=at_lt s i;have b1:=at_lt s (i+1);have b2:=at_lt s (i+2);have b3:=at_lt s (i+3);have hF:∀k:Nat,F397 [.str s,.int .i64 ((i:Int)+(k:Int))]=some (.bool (Ck s (i+k))):=by
     intro k;simp only[F397];rw[if_pos (by omega)];congr 3
    have hF1:=hF 1;have hF2:=hF 2;have hF3:=hF 3;have hG:∀k:Nat,i+k<s.length->F398 [.str s,.int .i64 ((i:Int)+(k:Int))]=some (.int .i64 ((at' s (i+k):Int)-128)):=by
     intro k hk;simp only[F398];rw[if_pos (by omega)];congr 3
    have hG1:=hG 1;have hG2:=hG 2;have hG3:=hG 3;have t1:=@Cf s (i+1);have t2:=@Cf s (i+2);have t3:=@Cf s (i+3);have w1:IntKind.i64.wrap ((i:Int)+1)=(i:Int)+1:=w64 (by omega) (by omega);have w2:IntKind.i64.wrap ((i:Int)+2)=(i:Int)+2:=w64 (by omega) (by omega);have w3:IntKind.i64.wrap ((i:Int)+3)=(i:Int)+3:=w64 (by omega) (by omega);have w0:IntKind.i64.wrap ((c.toNat:Nat):Int)=at' s i:=by rw[←hc2];exact w64 (by omega) (by omega)
    clear hF hG;generalize e1:Ck s (i+1)=u1 at *;generalize e2:Ck s (i+2)=u2 at *;generalize e3:Ck s (i+3)=u3 at *;simp only[Int.cast_ofNat_Int]at hF1 hF2 hF3 hG1 hG2 hG3;have hnext:Cs s ((i:Int)).toNat=Cs s i:=rfl;rw[hnext];unfold Cs;rw[e1,e2,e3];generalize at' s i=x0 at *;generalize at' s (i+1)=x1 at *;generalize at' s (i+2)=x2 at *;generalize at' s (i+3)=x3 at *;unfold dc366;simp only[↓go1,go2,simprocAttr,h0,Qe,hc,w0];have g1:=λh=>hG1 (t1.mp h).1
    have g2:=λh=>hG2 (t2.mp h).1
    have g3:=λh=>hG3 (t3.mp h).1
    clear t1 t2 t3 hG1 hG2 hG3 hnext e1 e2 e3
    repeat' (first|(refine ifQ.intro (λh=>?_) (λh=>?_)<;>try (exfalso;omega))|(simp (disch:=first|assumption|omega)only[↓go1,gB3,simprocAttr,hF1,hF2,hF3,g1,g2,g3,w1,w2,w3,h,Aa s397,Aa s398,w64]))
    all_goals
     clear g1 g2 g3 hF1 hF2 hF3 w0 w1 w2 w3 s397 s398 hS;simp only[D.tup.injEq,QV,D.int.injEq,true_and,and_true]
     (repeat' split)<;>first|(constructor<;>rfl)|(exfalso;simp_all;omega)|(exfalso;simp_all;done)|(exfalso;omega)
   ·cases h
  ·cases h
def get_at(s:Bs)(i:Nat):((ByteArray.mk s.toArray).get! i).toNat=at' s i:=by
 have:(ByteArray.mk s.toArray).get! i=s.toArray[i]!:=rfl;rw[this];unfold at';by_cases h:i<s.length
 ·simp[h]
 ·simp[h];rfl
def size_at(s:Bs):(ByteArray.mk s.toArray).size=s.length:=by simp[ByteArray.size]
def dec_next(s:Bs)(i:Nat)(hi:i<s.length):(Utf8.decode ⟨s.toArray⟩ i).2=(Cs s i).2∧CV ((Utf8.decode ⟨s.toArray⟩ i).1:Nat)=CV (Cs s i).1:=by
 have b0:=at_lt s i;have b1:=at_lt s (i+1);have b2:=at_lt s (i+2);have b3:=at_lt s (i+3);have t1:(decide (i+1<s.length)&&(at' s (i+1) / 64==2))=Ck s (i+1):=by
  rw[Qm];simp[Ck];omega
 have t2:(decide (i+2<s.length)&&(at' s (i+2) / 64==2))=Ck s (i+2):=by
  rw[Qm];simp[Ck];omega
 have t3:(decide (i+3<s.length)&&(at' s (i+3) / 64==2))=Ck s (i+3):=by
  rw[Qm];simp[Ck];omega
 have c1:=@Cf s (i+1);have c2:=@Cf s (i+2);have c3:=@Cf s (i+3);unfold Utf8.decode Cs;simp only[get_at,size_at,Zf,t1,t2,t3];generalize Ck s (i+1)=u1 at *;generalize Ck s (i+2)=u2 at *;generalize Ck s (i+3)=u3 at *;generalize at' s i=x0 at *;generalize at' s (i+1)=x1 at *;generalize at' s (i+2)=x2 at *;generalize at' s (i+3)=x3 at *;clear t1 t2 t3;have bad:CV ((Utf8.runeError:Nat):Int)=CV (-1):=by decide
 have val:∀c:Nat,Utf8.valid (c:Int)=true↔(c<55296∨(57344<=c∧c<=1114111)):=by
  intro c;simp[Utf8.valid];omega
 have q1:(x0 / 32==6)=decide (192<=x0∧x0<224):=by rw[Qm];simp;omega
 have q2:(x0 / 16==14)=decide (224<=x0∧x0<240):=by rw[Qm];simp;omega
 have q3:(x0 / 8==30)=decide (240<=x0∧x0<248):=by rw[Qm];simp;omega
 simp only[q1,q2,q3,QS,decide_eq_true_eq,val,ge_iff_le];clear q1 q2 q3 val;cases u1<;>cases u2<;>cases u3<;>simp only[QC,and_false,false_and,if_false,and_true,true_and,false_iff,true_iff]at c1 c2 c3 ⊢
 all_goals (repeat' split)<;>first|exact⟨rfl,bad⟩|exact⟨rfl,rfl⟩|(exfalso;omega)|(refine⟨rfl,?_⟩;congr 1;omega)
def next_le(s:Bs)(i:Nat)(hi:i<s.length):1<=(Cs s i).2∧i+(Cs s i).2<=s.length:=by
 unfold Cs;simp only[Cf]
 (repeat' split)<;>simp only<;>omega
def CU(s:Bs):Nat->Nat->Nat->Int
 |0,_,n=>if 12<n then 5 else 0
 |f+1,p,n=>if p<s.length then(if CV (Cs s p).1=true then CU s f (p+(Cs s p).2) (n+1)else 4)else if 12<n then 5 else 0
def Ed(s:Bs):Int:=if s=[]∨s=[46]∨s=[46,46]∨s=[45]then 4 else CU s s.length 0 0
def F313:List D->Option D
 |[.str s]=>if s.length<=1000000 then some (.int .i64 (Ed s))else none
 |_=>none
def loop313{S:Summs}{ns:Id}{s:Bs}{e:Int}{Q:Ex->St->Prop}(hb:s.length<=1000000)(s366:S 366=some (Ac F366))(s367:S 367=some (Ac F367))
  (hret:∀st,e=4->st.s 2= .int .i64 4->Q .ret st) (hexit:∀st (n:Nat),(if 12<n then(5:Int)else 0)=e->st.s 3= .int .i64 (n:Int)->Q (.exit 0) st):
  ∀(f p n:Nat) st g,s.length<=p+f->p<=s.length->n<=p->CU s f p n=e->st.s 0= .str s->st.s 3= .int .i64 (n:Int)->st.s 4= .int .i64 (p:Int)->A8 S ns dc313l0 Q st g:=by
 intro f;induction f with
 |zero=>
  intro p n st g hf hp hn he h0 h3 h4;refine Ae dc313l0.eq_1 ?_;have:¬((p:Int)<s.length):=by omega
  simp only[↓go1,go2,go4,simprocAttr,h4,h0,this];exact hexit _ n he (by simp only[↓go1,reduceIte,Qk,h3])
 |succ f ih=>
  intro p n st g hf hp hn he h0 h3 h4;refine Ae dc313l0.eq_1 ?_;unfold CU at he;by_cases hlt:p<s.length
  ·rw[if_pos hlt]at he;have hlt':((p:Int)<s.length):=by omega
   obtain⟨n1,n2⟩:=next_le s p hlt;have hF:F366 [.str s,.int .i64 (p:Int)]=some (.tup [.int .i64 (Cs s p).1,.int .i64 ((Cs s p).2:Nat)]):=by
    simp only[F366];rw[if_pos (by omega)];rfl
   have hG:F367 [.int .i64 (Cs s p).1]=some (.bool (CV (Cs s p).1)):=rfl;generalize Cs s p=r at *;have w1:IntKind.i64.wrap ((n:Int)+1)=((n+1:Nat):Int):=w64 (by omega) (by omega);have w2:IntKind.i64.wrap ((p:Int)+(r.2:Nat))=((p+r.2:Nat):Int):=w64 (by omega) (by omega);cases ho:CV r.1 with
   |true=>
    rw[if_pos ho]at he;simp only[↓go1,gB3,simprocAttr,h4,h0,h3,hlt',Aa s366,Aa s367,hF,hG,ho,w1,w2];exact ih _ _ _ _ (by omega) (by omega) (by omega) he h0 rfl rfl
   |false=>
    rw[if_neg (by rw[ho];simp)]at he;simp only[↓go1,gB3,simprocAttr,h4,h0,hlt',Aa s366,Aa s367,hF,hG,ho];exact hret _ he.symm rfl
  ·rw[if_neg hlt]at he;have hlt':¬((p:Int)<s.length):=by omega
   simp only[↓go1,go2,go4,simprocAttr,h4,h0,hlt'];exact hexit _ n he (by simp only[↓go1,reduceIte,Qk,h3])
def ok313:(Ac F313).ok Qc 313:=by
 obtain⟨S,hS,hl⟩:=A7 (Ab ok366 (Ab ok367 Ad));have s366:=hl 366 _ rfl;have s367:=hl 367 _ rfl;clear hl;refine Ay (S:=S) hS fn313 (λds r h=>?_) (λds r h=>?_)
 ·unfold F313 at h;split at h
  ·simp
  ·cases h
 ·unfold F313 at h;split at h
  ·rename_i s;split at h
   ·rename_i hb;simp only[Qb]at h;subst h;unfold dc313 Ed;by_cases hs:s=[]∨s=[46]∨s=[46,46]∨s=[45]
    ·rw[if_pos hs];rcases hs with rfl|rfl|rfl|rfl<;>simp only[↓go1,gB3,simprocAttr,QV,show((45:UInt8)=46)=False by decide,and_false,and_self]
    ·rw[if_neg hs];obtain⟨a1,a2,a3,a4⟩:s≠[]∧s≠[46]∧s≠[46,46]∧s≠[45]:=by simp only[not_or]at hs;exact hs
     have a1':(s=[])=False:=eq_false a1;have a2':(s=[46])=False:=eq_false a2;have a3':(s=[46,46])=False:=eq_false a3;have a4':(s=[45])=False:=eq_false a4;simp only[↓go1,go2,go4,simprocAttr,a1',a2',a3',a4'];refine loop313 (e:=CU s s.length 0 0) hb s366 s367 (λst h1 h2=>?_) (λst n h1 h2=>?_) s.length 0 0 _ _ (by omega) (by omega) (by omega) rfl rfl rfl rfl
     ·simp only[↓go1,gB3,h2,h1]
     ·rw[←h1];have c1:((12:Int)<(n:Int))=(12<n):=by simp only[eq_iff_iff];omega
      simp only[↓go1,go2,simprocAttr,h2,c1];refine ifQ.intro (λh=>?_) (λh=>?_)<;>simp only[↓go1,gB3,simprocAttr,h]
   ·cases h
  ·cases h
def F395:List D->Option D
 |[.str s]=>if s.length<=1000000 then some (.int .i64 (Ed s))else none
 |_=>none
def loop395{S:Summs}{ns i:Id}{s:Bs}{e:Int}{Q:Ex->St->Prop}(hb:s.length<=1000000)(s409:S 409=some (Ac F409))
  (hret:∀st,e=4->st.s 2= .int .i64 4->Q .ret st) (hexit:∀st (n:Nat),(if 12<n then(5:Int)else 0)=e->st.s 3= .int .i64 (n:Int)->Q (.exit 0) st):
  ∀(f p n:Nat) st g,s.length<=p+f->p<=s.length->n<=p->CU s f p n=e->st.s 21= .itp i->st.m i 1=some (.it s p)->st.s 3= .int .i64 (n:Int)->A8 S ns dc395l0 Q st g:=by
 intro f;induction f with
 |zero=>
  intro p n st g hf hp hn he h0 hm h3;refine Ae dc395l0.eq_1 ?_;have:¬(p<s.length):=by omega
  simp only[↓go1,go2,go4,simprocAttr,hm,h0,this];exact hexit _ n he (by simp only[↓go1,reduceIte,Qk,h3])
 |succ f ih=>
  intro p n st g hf hp hn he h0 hm h3;refine Ae dc395l0.eq_1 ?_;unfold CU at he;by_cases hlt:p<s.length
  ·rw[if_pos hlt]at he;obtain⟨n1,n2⟩:=next_le s p hlt;obtain⟨d1,d2⟩:=dec_next s p hlt;rw[←d1]at he n1 n2;rw[←d2]at he;have hG:F409 [.int .i32 ((Utf8.decode ⟨s.toArray⟩ p).1:Nat)]=some (.bool (CV ((Utf8.decode ⟨s.toArray⟩ p).1:Nat))):=rfl;have w1:IntKind.i64.wrap ((n:Int)+1)=((n+1:Nat):Int):=w64 (by omega) (by omega);cases ho:CV ((Utf8.decode ⟨s.toArray⟩ p).1:Nat)with
   |true=>
    rw[if_pos ho]at he;simp only[↓go1,gB3,simprocAttr,hm,h0,h3,hlt,Aa s409,hG,ho,w1];exact ih _ _ _ _ (by omega) (by omega) (by omega) he h0 (by simp only[];rw[EY,if_pos ⟨rfl,rfl⟩]) rfl
   |false=>
    rw[if_neg (by rw[ho];simp)]at he;simp only[↓go1,gB3,simprocAttr,hm,h0,hlt,Aa s409,hG,ho];exact hret _ he.symm rfl
  ·rw[if_neg hlt]at he;simp only[↓go1,go2,go4,simprocAttr,hm,h0,hlt];exact hexit _ n he (by simp only[↓go1,reduceIte,Qk,h3])
def ok395:(Ac F395).ok Qc 395:=by
 obtain⟨S,hS,hl⟩:=A7 (Ab ok409 Ad);have s409:=hl 409 _ rfl;clear hl;refine Ay (S:=S) hS fn395 (λds r h=>?_) (λds r h=>?_)
 ·unfold F395 at h;split at h
  ·simp
  ·cases h
 ·unfold F395 at h;split at h
  ·rename_i s;split at h
   ·rename_i hb;simp only[Qb]at h;subst h;unfold dc395 Ed;by_cases hs:s=[]∨s=[46]∨s=[46,46]∨s=[45]
    ·rw[if_pos hs];rcases hs with rfl|rfl|rfl|rfl<;>simp only[↓go1,gB3,simprocAttr,QV,show((45:UInt8)=46)=False by decide,and_false,and_self]
    ·rw[if_neg hs];obtain⟨a1,a2,a3,a4⟩:s≠[]∧s≠[46]∧s≠[46,46]∧s≠[45]:=by simp only[not_or]at hs;exact hs
     have a1':(s=[])=False:=eq_false a1;have a2':(s=[46])=False:=eq_false a2;have a3':(s=[46,46])=False:=eq_false a3;have a4':(s=[45])=False:=eq_false a4;simp only[↓go1,go2,go4,simprocAttr,a1',a2',a3',a4'];refine loop395 (e:=CU s s.length 0 0) hb s409 (λst h1 h2=>?_) (λst n h1 h2=>?_) s.length 0 0 _ _ (by omega) (by omega) (by omega) rfl rfl (by simp only[];rw[EY,if_pos ⟨rfl,rfl⟩]) rfl
     ·simp only[↓go1,gB3,h2,h1]
     ·rw[←h1];have c1:((12:Int)<(n:Int))=(12<n):=by simp only[eq_iff_iff];omega
      simp only[↓go1,go2,simprocAttr,h2,c1];refine ifQ.intro (λh=>?_) (λh=>?_)<;>simp only[↓go1,gB3,simprocAttr,h]
   ·cases h
  ·cases h
end Go.Vd
namespace Go.Vd
open Go.RowKit
def splitC(q:UInt8):Bs->List Bs
 |[]=>[[]]
 |c::r=>if c=q then []::splitC q r else match splitC q r with
  |h::t=>(c::h)::t
  |[]=>[[c]]
def splitB_ne{q:UInt8}:∀s,splitC q s≠[]
 |[]=>by simp[splitC]
 |c::r=>by
  unfold splitC;split
  ·simp
  ·split<;>simp
def split_word{q:UInt8}{w:Bs}(h:q∉w):∀s,splitC q (w++q::s)=w::splitC q s:=by
 induction w with
 |nil=>intro s;simp[splitC]
 |cons c r ih=>
  intro s;simp only[QK,not_or]at h;simp only[Q5,splitC];rw[if_neg (λe=>h.1 e.symm),ih h.2]
def split_one{q:UInt8}{w:Bs}(h:q∉w):splitC q w=[w]:=by
 induction w with
 |nil=>rfl
 |cons c r ih=>
  simp only[QK,not_or]at h;simp only[splitC];rw[if_neg (λe=>h.1 e.symm),ih h.2]
def Gw(m:Mem)(c e:Nat)(nl:Bool)(t:Id):Prop:=nl=true∨∃j,t=[j]∧j<c∧m t 0=some (.tok (e+1))
def Gw.grow{m:Mem}{c e c' x:Nat}{nl:Bool}{t:Id}{xs:List D}(h:Gw m c e nl t)(hc:c<=c'):Grow (m.put [c'] 0 [.tok x]) e (.slice nl t xs):=by
 rcases h with h|⟨j,rfl,h1,h2⟩
 ·exact .inl h
 ·refine .inr ⟨?_,by simp⟩;rw[Mem.put_other (by simp;omega)];exact h2
def Gw.new{m:Mem}{c e c':Nat}{nl:Bool}{t:Id}{xs:List D}(hc:c'<c):Gw (Upd.app m (Bg e [c'] (.slice nl t xs))) c e false [c']:=by
 refine .inr ⟨c',rfl,hc,?_⟩;cases nl<;>simp[Bg,Upd.app,Bm]
def Gw.more{m:Mem}{c c' e:Nat}{nl:Bool}{t:Id}(h:Gw m c e nl t)(hc:c<=c'):Gw m c' e nl t:=by
 rcases h with h|⟨j,h1,h2,h3⟩
 ·exact .inl h
 ·exact .inr ⟨j,h1,by omega,h3⟩
def Gw.put{m:Mem}{c e c' o:Nat}{nl:Bool}{t:Id}{ds:List D}(h:Gw m c e nl t)(hc:c<=c'):Gw (m.put [c'] o ds) c e nl t:=by
 rcases h with h|⟨j,rfl,h1,h2⟩
 ·exact .inl h
 ·refine .inr ⟨j,rfl,h1,?_⟩;rw[Mem.put_other (by simp;omega)];exact h2
def Gw.toGrow{m:Mem}{c e:Nat}{nl:Bool}{t:Id}{xs:List D}(h:Gw m c e nl t):Grow m e (.slice nl t xs):=by
 rcases h with h|⟨j,rfl,h1,h2⟩
 ·exact .inl h
 ·exact .inr ⟨h2,by simp⟩
def FU:List D->Option (List Bs)
 |[]=>some []
 | .str s::r=>(FU r).map (s::·)
 |_=>none
def EV:∀{xs:List D} {l:List Bs},FU xs=some l->xs=l.map .str
 |[],l,h=>by simp only[FU,Qb]at h;subst h;rfl
 |x::r,l,h=>by
  unfold FU at h;split at h
  ·rename_i h0;cases h0
  ·rename_i s r' h0;simp only[QV]at h0;obtain⟨rfl,rfl⟩:=h0;rw[Qf]at h;obtain⟨l',h1,rfl⟩:=h;rw[EV h1];rfl
  ·cases h
def FT:∀l:List Bs,FU (l.map .str)=some l
 |[]=>rfl
 |i::r=>by simp only[QJ,FU];rw[FT r];rfl
def strs_all:∀l:List Bs,(l.map D.str).all isStrD=true
 |[]=>rfl
 |w::r=>by
  show(isStrD (.str w)&&_)=true;rw[strs_all r];rfl
end Go.Vd
namespace Go.Proofs
open Go.Shelf Go.RowKit Go.Lib
variable{P:Program}{ρ:Ren}
def indexByte_hit{c:UInt8}{r:List UInt8}:∀{w:List UInt8},c∉w->Lib.indexByte (w++c::r) c=w.length
 |[],_=>by simp[Lib.indexByte]
 |b::w,h=>by
  simp only[QK,not_or]at h;have ih:=indexByte_hit (r:=r) h.2;have hb:(b==c)=false:=beq_eq_false_iff_ne.2 (λe=>h.1 e.symm);have h1:((w.length:Int)==-1)=false:=beq_eq_false_iff_ne.2 (by omega);rw[Q5,Lib.indexByte,hb,ih,h1];simp
def splitK_eq(q:UInt8):∀(n:Nat)(s:List UInt8),s.length<=n->Lib.splitK [q] 0 (s.count q) s=Go.Vd.splitC q s:=by
 intro n;induction n with
 |zero=>intro s h;obtain rfl:s=[]:=List.length_eq_zero_iff.1 (by omega);rfl
 |succ n ih=>
  intro s h;by_cases hm:q∈s
  ·obtain⟨w,r,rfl,hw⟩:=List.eq_append_cons_of_mem hm;have hc:(w++q::r).count q=r.count q+1:=by rw[List.count_append,QU hw];simp
   have hi:Lib.index (w++q::r) [q]=w.length:=by rw[Lib.index_one];exact indexByte_hit hw
   have h1:¬((w.length:Int)==-1)=true:=λe=>by have:=beq_iff_eq.1 e;omega
   rw[hc,Lib.splitK,hi,if_neg h1,Go.Vd.split_word hw,Qe];have e1:(w++q::r).take (w.length+0)=w:=by simp
   have e2:(w++q::r).drop (w.length+[q].length)=r:=by
    rw[show w.length+[q].length=(w++[q]).length by simp,show w++q::r=(w++[q])++r by simp,List.drop_left]
   rw[e1,e2,ih r (by simp at h;omega)]
  ·rw[QU hm,Go.Vd.split_one hm];rfl
set_option maxHeartbeats 1000000 in
def split_space(q:UInt8)(L:Lays.n146 P ρ)(hi9:(P.info? (ρ.t 9)).map (λi=>(i.zero,i.size,i.bytes))=some (some (.string ByteArray.empty),1,16))(s:ByteArray)(w:World)(hs:s.size<4294967281):
  Calls P (ρ.f 146) #[.string s,.string ⟨#[q]⟩] w λe w'=>
   e= .returned (.slice (some ⟨w.heap.size,0,none⟩) (Lib.countB s ⟨#[q]⟩+1) (Lib.countB s ⟨#[q]⟩+1))∧w'=w.alloc (.cells ((Lib.splitB ⟨#[q]⟩ 0 (Lib.countB s ⟨#[q]⟩) s).map Value.string).toArray (ρ.t 9)):=by
 have h1:1<=(⟨#[q]⟩:ByteArray).size:=Qo 1;have hle:=Lib.countB_le ⟨#[q]⟩ h1 s.size s (Qo _);have hlen:=Lib.splitB_all ⟨#[q]⟩ h1 0 _ s rfl;have c:=Any.strings_genSplit_core {L with} hi9 s ⟨#[q]⟩ 0 (-1) (Lib.countB s ⟨#[q]⟩+1) w hs h1 (Qq _)
  (λx cc _=>(Any.strings_Index_one {L with} x q _).mono λe w' ⟨he,hw⟩=>⟨by rw[he,←Lib.index_one],hw⟩)
  ((Any.strings_Count_one {L with} s q w).mono λe w' ⟨he,hw⟩=>⟨by rw[he];show _=Ending.returned (Value.int .i64 ((Lib.count s.data.toList [q]:Nat):Int));rw[Lib.count_one];rfl,hw⟩)
  (by decide) (by decide) (by rw[if_pos (by decide)];omega)
 rw[Nat.add_sub_cancel,hlen]at c;have e2:Lib.cellsOf (Lib.splitB ⟨#[q]⟩ 0 (Lib.countB s ⟨#[q]⟩) s) (Lib.countB s ⟨#[q]⟩+1)=((Lib.splitB ⟨#[q]⟩ 0 (Lib.countB s ⟨#[q]⟩) s).map Value.string).toArray:=by rw[←hlen];exact Lib.cellsOf_full _
 rw[e2]at c;have t3:=L.t3;have t9:=L.t9;have t31:=L.t31;have a3:=L.a3;have a9:=L.a9;have a31:=L.a31;have z3:=L.z3;have v3:=L.v3;have z9:=L.z9;have v9:=L.v9;have z31:=L.z31;have v31:=L.v31;have e221:∀args w,(callFunc (ρ.f 221) args).run P w= .ok (.enter (ρ.f 221) args) w:=enters_of L.f221 (by kernel_rfl) rfl
 go_enter L.f146,Body.n146_ntmps ρ
 go_wp2_with (go_at_fn (ρ.f 221);refine c.mono ?_;rintro e w' ⟨rfl,hw⟩;rw[hw])
 go_ret
 exact⟨rfl,rfl⟩
end Go.Proofs
namespace Go.Vd
open Go.RowKit Go.Proofs
def CZ:List D->Option D
 |[.str s,.str [q]]=>if s.length<=1000000 then some (.slice false [] ((splitC q s).map .str))else none
 |_=>none
def splitB_len{q:UInt8}:∀s:Bs,(splitC q s).length<=s.length+1
 |[]=>by simp[splitC]
 |c::r=>by
  have ih:=splitB_len (q:=q) r;unfold splitC;split
  ·simp;omega
  ·split
   ·rename_i h t e;rw[e]at ih;simp at ih ⊢;omega
   ·simp
def split_ok {P:Program} {ρ:Go.Shelf.Ren} (L:Go.Proofs.Lays.n146 P ρ) (hi9:(P.info? (ρ.t 9)).map (fun i=>(i.zero,i.size,i.bytes))=some (some (.string ByteArray.empty),1,16)) (ent:∃fn,P.funcs[ρ.f 146]?=some fn∧fn.body.isSome=true∧(fn.name== "runtime.NumGoroutine")=false):(Ac CZ).ok P (ρ.f 146):=by
 refine⟨ent,λds m m' fr _=>rfl,?_⟩;intro B w0 w m g fr ds vs r u hi hfresh hl hrep hex;simp only[Ac]at hex;split at hex
 ·rw[Qf]at hex;obtain⟨r',hr,hex⟩:=hex;simp only[Qh]at hex;obtain⟨rfl,rfl⟩:=hex
  match ds,vs,hl with
  |[d,d1],[v,v1],_=>
   have h0:=hrep 0 d v rfl rfl;have h1:=hrep 1 d1 v1 rfl rfl;have hd:∃s,d= .str s:=by
    cases d<;>first|exact⟨_,rfl⟩|(exfalso;simp[CZ,D.un]at hr;done)
   obtain⟨s,rfl⟩:=hd;have hd1:∃q,d1= .str [q]:=by
    cases d1 with
    |str z=>
     simp only[QJ,List.map_nil,D.un,CZ]at hr;split at hr
     ·rename_i q heq;simp at heq;exact⟨q,by rw[heq.2]⟩
     ·cases hr
    |_=>exfalso;simp[CZ,D.un]at hr
   obtain⟨q,rfl⟩:=hd1;simp only[QJ,List.map_nil,D.un,CZ]at hr;split at hr
   ·rename_i hc;simp only[Qb]at hr;subst hr;rw[h0.str_inv,h1.str_inv];have hcnt:Lib.countB ⟨s.toArray⟩ ⟨#[q]⟩=s.count q:=by
     show Lib.count s [q]=_;exact Lib.count_one q s
    have hpc:(Lib.splitB ⟨#[q]⟩ 0 (s.count q) ⟨s.toArray⟩).map (·.data.toList)=splitC q s:=by
     rw[Lib.splitB_data];exact Go.Proofs.splitK_eq q s.length s (Qo _)
    have hlen:(splitC q s).length=s.count q+1:=by
     rw[←hpc,Ql,←hcnt];exact Lib.splitB_all ⟨#[q]⟩ (Qo 1) 0 _ _ rfl
    refine(Go.Proofs.split_space q L hi9 ⟨s.toArray⟩ w (by show s.length<_;omega)).mono ?_;rintro ev w' ⟨rfl,rfl⟩;have hb:Below w.heap.size w (w.alloc (.cells ((Lib.splitB ⟨#[q]⟩ 0 (Lib.countB ⟨s.toArray⟩ ⟨#[q]⟩) ⟨s.toArray⟩).map Value.string).toArray (ρ.t 9))):=(Below.refl _ _).alloc (Qo _) _;refine⟨_,g.over w _,rfl,hi.over hb,Ext.over hi.gz hb,rep_own (e:=ρ.t 9) (n:=s.count q+1) hi hb (strs_all _) (by rw[Ql,hlen]) ?_ (by simp),λi hf _=>hf⟩;have hl2:=splitB_len (q:=q) s;have hmap:((splitC q s).map D.str).map (λd=>Value.string ⟨(strOf d).toArray⟩)=(Lib.splitB ⟨#[q]⟩ 0 (s.count q) ⟨s.toArray⟩).map Value.string:=by
     rw[←hpc,Q0,Q0];refine QY λx _=>?_
     rfl
    rw[hmap,hcnt];have hll:((Lib.splitB ⟨#[q]⟩ 0 (s.count q) ⟨s.toArray⟩).map Value.string).length=s.count q+1:=by
     rw[←hlen,←hpc];simp
    refine⟨by rw[hll];omega,.inr ⟨w.heap.size,s.count q+1,_,rfl,Qo _,heap_alloc_new w _,Qo _,?_,?_,?_⟩⟩
    ·rw[hlen]at hl2;have:maxLen=9223372036854775807:=rfl;omega
    ·rw[List.size_toArray,hll];omega
    ·rw[QQ (by rw[hll];omega)]
   ·cases hr
  |[],_,_=>simp[CZ]at hr
  |[_],_,_=>simp[CZ]at hr
  |_::_::_::_,_,_=>simp[CZ]at hr
 ·cases hex
end Go.Vd
namespace Go.Vd
open Go.RowKit Go.Proofs
def F312:List D->Option D
 |[.str s]=>if s.length<=1000000 then some (.slice false [] ((splitC 47 s).map .str))else none
 |_=>none
def take_snoc{l:Bs}{a k:Nat}(ha:a<=k)(hk:k<l.length):(l.drop a).take (k+1-a)=(l.drop a).take (k-a)++[l[k]]:=by
 rw[show k+1-a=(k-a)+1 by omega,QE,List.getElem?_drop,show a+(k-a)=k by omega,Qd hk];rfl
def drop_split{l:Bs}{a k:Nat}(ha:a<=k)(hk:k<l.length):l.drop a=(l.drop a).take (k-a)++l[k]::l.drop (k+1):=by
 have h:=Q9 (k-a) (l.drop a);rw[List.drop_drop,show a+(k-a)=k by omega,QI hk]at h;exact h.symm
set_option maxHeartbeats 2000000 in
def loop312{S:Summs}{l:Bs}{Q:Ex->St->Prop}(hb:l.length<=1000000)
  (hexit:∀st t,st.s 3= .slice false t ((splitC 47 l).map .str)->Q (.exit 0) st):
  ∀(n k a:Nat)(t:Id)(pre:List Bs) st g,n=l.length-k->k<=l.length->a<=k->pre.length<=k->splitC 47 l=pre++splitC 47 (l.drop a)->(47:UInt8)∉(l.drop a).take (k-a)->st.s 5= .int .i64 (k:Int)->st.s 4= .int .i64 (a:Int)->st.s 0= .str l->st.s 3= .slice pre.isEmpty t (pre.map .str)->Gw st.m st.c 9 pre.isEmpty t->
   A8 S [] dc312l0 Q st g:=by
 intro n;induction n with
 |zero=>
  intro k a t pre st g hn hk ha hp hu hw h7 h6 h0 h5 hg;refine Ae dc312l0.eq_1 ?_;obtain rfl:k=l.length:=by omega
  have c1:((l.length:Int)<=(l.length:Int))=True:=eq_true (by omega);have c2:((0:Int)<=(l.length:Int))=True:=eq_true (by omega);have c3:((a:Int)<=(l.length:Int))=True:=eq_true (by omega);have c4:((0:Int)<=(a:Int))=True:=eq_true (by omega);have c5:IntKind.i64.wrap ((l.length:Int)+1)=(l.length:Int)+1:=IntWalk.i64_in _ ⟨by omega,by omega⟩;have c6:(((l.length:Int)+1)<=(l.length:Int))=False:=eq_false (by omega);have hnil:pre.isEmpty=true->pre.map D.str=[]:=λh=>by rw[List.isEmpty_iff]at h;rw[h];rfl
  simp only[↓go1,gB3,simprocAttr,Qg,Qv,Qe,h7,h6,h0,h5,c1,c2,c3,c4,and_false,and_self];refine Ao.intro ⟨by simp only[Ql];omega,rfl,(hg.put (by omega)).toGrow⟩ ?_;rw[BG hnil];simp only[↓go1,gB3,simprocAttr,h7,c5];refine Ae dc312l0.eq_1 ?_;simp only[↓go1,gB3,simprocAttr,h7,h0,c6];refine hexit _ [st.c+4+10+6] ?_;simp only[↓go1,reduceIte,Qk];have e:(l.drop a).take (l.length-a)=l.drop a:=QQ (by simp);rw[e]at hw;rw[hu,split_one hw,e,List.map_append];rfl
 |succ n ih=>
  intro k a t pre st g hn hk ha hp hu hw h7 h6 h0 h5 hg;refine Ae dc312l0.eq_1 ?_;have hkl:k<l.length:=by omega
  have c1:((k:Int)<=(l.length:Int))=True:=eq_true (by omega);have c1':((k:Int)=(l.length:Int))=False:=eq_false (by omega);have c2:((0:Int)<=(k:Int))=True:=eq_true (by omega);have c3:((a:Int)<=(k:Int))=True:=eq_true (by omega);have c4:((0:Int)<=(a:Int))=True:=eq_true (by omega);have c5:IntKind.i64.wrap ((k:Int)+1)=((k+1:Nat):Int):=by rw[IntWalk.i64_in _ ⟨by omega,by omega⟩];omega
  have hx:l[k]?=some l[k]:=Qd hkl;have hnil:pre.isEmpty=true->pre.map D.str=[]:=λh=>by rw[List.isEmpty_iff]at h;rw[h];rfl
  by_cases hc:l[k]=47
  ·have hc':((l[k].toNat:Int)=47)=True:=eq_true (by rw[hc];rfl);simp only[↓go1,gB3,simprocAttr,Qg,Qv,Qe,h7,h6,h0,h5,c1,c2,c3,c4,c1',hx,hc',and_false,and_self];refine Ao.intro ⟨by simp only[Ql];omega,rfl,(hg.put (by omega)).toGrow⟩ ?_;rw[BG hnil];simp only[↓go1,gB3,simprocAttr,h7,c5];have hne:(pre++[(l.drop a).take (k-a)]).isEmpty=false:=by cases pre<;>rfl
   refine ih (k+1) (k+1) [st.c+4+10+6] (pre++[(l.drop a).take (k-a)]) _ _ (by omega) (by omega) (by omega) (by simp;omega) ?_ (by simp) rfl rfl h0 ?_ ?_
   ·have hds:=drop_split ha hkl;rw[hc]at hds;rw[hu,List.append_assoc];congr 1
    conv=>lhs;rw[hds]
    rw[split_word hw];rfl
   ·rw[hne,List.map_append];rfl
   ·rw[hne];exact Gw.new (by simp only;omega)
  ·have hc':((l[k].toNat:Int)=47)=False:=eq_false (λe=>hc (by rw[←UInt8.toNat_inj];have:((47:UInt8).toNat:Int)=47:=rfl;omega));simp only[↓go1,go2,go4,simprocAttr,Qe,h7,h0,c1,c2,c5,c1',hx,hc'];refine ih (k+1) a t pre _ _ (by omega) (by omega) (by omega) (by omega) hu ?_ rfl h6 h0 h5 (hg.more (by simp only;omega));rw[take_snoc ha hkl];simp only[List.mem_append,List.mem_singleton,not_or];exact⟨hw,λe=>hc e.symm⟩
def ok312:(Ac F312).ok Qc 312:=by
 refine Ay (S:=λ_=>none) AL fn312 (λds r h=>?_) (λds r h=>?_)
 ·unfold F312 at h;split at h
  ·simp
  ·cases h
 ·unfold F312 at h;split at h
  ·rename_i s;split at h
   ·rename_i hb;simp only[Qb]at h;subst h;unfold dc312;simp only[↓go1,go2,Qj];refine loop312 (l:=s) hb (λst t h5=>?_) s.length 0 0 [] [] _ _ rfl (by omega) (by omega) (by simp) (by simp) (by simp) rfl rfl rfl rfl (.inl rfl);simp only[↓go1,gB3,simprocAttr,h5]
   ·cases h
  ·cases h
end Go.Vd
namespace Go.Vd
open Go.Proofs Go.RowKit
def DL:Bool->List Bs->Option Bool
 |w,[]=>some w
 |w,p::r=>if Ed p=4 then none else DL (w||decide (Ed p=5)) r
def wI(w:Bool):Int:=if w=true then 5 else 0
def Ga(l:List Bs):Int:=match DL false l with
 |none=>4
 |some w=>if w=true then 5 else if 6<l.length then 24 else 0
def okL(l:List Bs):Prop:=l.length<=1000001∧∀p∈l,p.length<=1000000
def partE_cases(s:Bs):Ed s=4∨Ed s=5∨Ed s=0:=by
 have:∀f p n,CU s f p n=4∨CU s f p n=5∨CU s f p n=0:=by
  intro f;induction f with
  |zero=>intro p n;unfold CU;split<;>simp
  |succ f ih=>
   intro p n;unfold CU;split
   ·split
    ·exact ih _ _
    ·simp
   ·split<;>simp
 unfold Ed;split
 ·simp
 ·exact this _ _ _
open Classical in
def F360:List D->Option D
 |[.slice _ _ xs]=>match FU xs with
  |some l=>if okL l then some (.int .i64 (Ga l))else none
  |none=>none
 |_=>none
def loop360{S:Summs}{ns:Id}{l:List Bs}{nl:Bool}{t:Id}{e:Option Bool}{Q:Ex->St->Prop}(hb:okL l)(s395:S 395=some (Ac F395))
  (hret:∀st,e=none->st.s 2= .int .i64 4->Q .ret st) (hexit:∀st w,e=some w->st.s 3= .int .i64 (wI w)->st.s 0= .slice nl t (l.map .str)->Q (.exit 0) st):
  ∀(n k:Nat)(w:Bool) st g,n=l.length-k->k<=l.length->DL w (l.drop k)=e->st.s 8= .int .i64 (k:Int)->st.s 7= .int .i64 (l.length:Int)->st.s 6= .slice nl t (l.map .str)->st.s 0= .slice nl t (l.map .str)->st.s 3= .int .i64 (wI w)->A8 S ns dc360l0 Q st g:=by
 intro n;induction n with
 |zero=>
  intro k w st g hn hk he h8 h7 h6 h0 h3;refine Ae dc360l0.eq_1 ?_;have:¬((k:Int)<l.length):=by omega
  simp only[↓go1,go2,go4,reduceIte,Qj,h8,h7,this];rw[Q7 (by omega)]at he;exact hexit _ w he.symm (by simp only[↓go1,reduceIte,Qk,h3]) (by simp only[↓go1,reduceIte,Qk,h0])
 |succ n ih=>
  intro k w st g hn hk he h8 h7 h6 h0 h3;refine Ae dc360l0.eq_1 ?_;have hkl:k<l.length:=by omega
  have hlt:((k:Int)<l.length):=by omega
  have hk0:(0:Int)<=(k:Int):=by omega
  have hx:(l.map D.str)[(k:Int).toNat]?=some (.str (l[k])):=by simp[hkl]
  have hb1:=hb.1;have hw:IntKind.i64.wrap ((k:Int)+1)=((k+1:Nat):Int):=w64 (by omega) (by omega);have hF:F395 [.str l[k]]=some (.int .i64 (Ed l[k])):=if_pos (hb.2 _ (QG hkl));rw[QI hkl]at he;simp only[DL]at he;rcases partE_cases l[k]with h|h|h
  ·rw[if_pos h]at he;rw[h]at hF;simp only[↓go1,gB3,simprocAttr,h8,h7,h6,hlt,hk0,hx,Aa s395,hF];exact hret _ he.symm rfl
  ·rw[if_neg (by omega),h]at he;rw[h]at hF;have c1:((5:Int)=4)=False:=by simp
   simp only[↓go1,gB3,simprocAttr,h8,h7,h6,hlt,hk0,hx,Aa s395,hF,c1,hw];exact ih (k+1) true _ _ (by omega) (by omega) (by simpa using he) rfl h7 h6 h0 rfl
  ·rw[if_neg (by omega),h]at he;rw[h]at hF;have c1:((0:Int)=4)=False:=by simp
   have c2:((0:Int)=5)=False:=by simp
   simp only[↓go1,gB3,simprocAttr,h8,h7,h6,hlt,hk0,hx,Aa s395,hF,c1,c2,hw];exact ih (k+1) w _ _ (by omega) (by omega) (by simpa using he) rfl h7 h6 h0 h3
def ok360:(Ac F360).ok Qc 360:=by
 obtain⟨S,hS,hl⟩:=A7 (Ab ok395 Ad);have s395:=hl 395 _ rfl;clear hl;refine Ay (S:=S) hS fn360 (λds r h=>?_) (λds r h=>?_)
 ·unfold F360 at h;split at h
  ·simp
  ·cases h
 ·unfold F360 at h;split at h
  ·rename_i nl t xs;split at h
   ·rename_i l hl;obtain rfl:=EV hl;split at h
    ·rename_i hb;simp only[Qb]at h;subst h;unfold dc360 Ga;simp only[↓go1,go2,simprocAttr,Ql];have hb1:=hb.1;refine loop360 (nl:=nl) (t:=t) (e:=DL false l) hb s395 (λst h1 h2=>?_) (λst w h1 h2 h3=>?_) l.length 0 false _ _ (by omega) (by omega) rfl rfl rfl rfl rfl rfl
     ·simp only[↓go1,gB3,h2,h1]
     ·have c1:((6:Int)<(l.length:Int))=(6<l.length):=by simp only[eq_iff_iff];omega
      have c2:((5:Int)=0)=False:=by simp
      have c3:((0:Int)=0)=True:=by simp
      cases w<;>simp only[wI,reduceIte,QC]at h2<;>simp only[↓go1,gB3,simprocAttr,h1,h2,h3,Ql,c1,c2];refine ifQ.intro (λh=>?_) (λh=>?_)<;>simp only[↓go1,gB3,simprocAttr,h,h2,h1]
    ·cases h
   ·cases h
  ·cases h
def AW(s:Bs):Int:=if 64<s.length then 5 else Ga (splitC 47 s)
def F211:List D->Option D
 |[.str s]=>if s.length<=1000000 then some (.int .i64 (AW s))else none
 |_=>none
def splitB_okL{s:Bs}(h:s.length<=1000000):okL (splitC 47 s):=by
 have:∀(s:Bs) w,w∈splitC 47 s->w.length<=s.length:=by
  intro s;induction s with
  |nil=>intro w hw;simp[splitC]at hw;simp[hw]
  |cons c r ih=>
   intro w hw;unfold splitC at hw;split at hw
   ·simp only[QK]at hw;rcases hw with rfl|hw
    ·simp
    ·have:=ih w hw;simp;omega
   ·split at hw
    ·rename_i h t e;simp only[QK]at hw;rcases hw with rfl|hw
     ·have:=ih h (by rw[e];simp);simp;omega
     ·have:=ih w (by rw[e];simp[hw]);simp;omega
    ·simp at hw;simp[hw]
 have h2:=splitB_len (q:=47) s;exact⟨by omega,λp hp=>by have:=this s p hp;omega⟩
def loop211{S:Summs}{ns:Id}{l:List Bs}{nl:Bool}{t:Id}{e:Option Bool}{Q:Ex->St->Prop}(hb:okL l)(s313:S 313=some (Ac F313))
  (hret:∀st,e=none->st.s 2= .int .i64 4->Q .ret st) (hexit:∀st w,e=some w->st.s 4= .bool w->st.s 3= .slice nl t (l.map .str)->Q (.exit 0) st):
  ∀(n k:Nat)(w:Bool) st g,n=l.length-k->k<=l.length->DL w (l.drop k)=e->st.s 5= .int .i64 (k:Int)->st.s 3= .slice nl t (l.map .str)->st.s 4= .bool w->A8 S ns dc211l0 Q st g:=by
 intro n;induction n with
 |zero=>
  intro k w st g hn hk he h5 h3 h4;refine Ae dc211l0.eq_1 ?_;have:¬((k:Int)<l.length):=by omega
  simp only[↓go1,go2,go4,simprocAttr,h5,h3,Ql,this];rw[Q7 (by omega)]at he;exact hexit _ w he.symm (by simp only[↓go1,reduceIte,Qk,h4]) (by simp only[↓go1,reduceIte,Qk,h3])
 |succ n ih=>
  intro k w st g hn hk he h5 h3 h4;refine Ae dc211l0.eq_1 ?_;have hkl:k<l.length:=by omega
  have hlt:((k:Int)<l.length):=by omega
  have hk0:(0:Int)<=(k:Int):=by omega
  have hx:(l.map D.str)[(k:Int).toNat]?=some (.str (l[k])):=by simp[hkl]
  have hb1:=hb.1;have hw:IntKind.i64.wrap ((k:Int)+1)=((k+1:Nat):Int):=w64 (by omega) (by omega);have hF:F313 [.str l[k]]=some (.int .i64 (Ed l[k])):=if_pos (hb.2 _ (QG hkl));rw[QI hkl]at he;simp only[DL]at he;rcases partE_cases l[k]with h|h|h
  ·rw[if_pos h]at he;rw[h]at hF;simp only[↓go1,gB3,simprocAttr,h5,h3,Ql,hlt,hk0,hx,Aa s313,hF];exact hret _ he.symm rfl
  ·rw[if_neg (by omega),h]at he;rw[h]at hF;have c1:((5:Int)=4)=False:=by simp
   cases w<;>simp only[↓go1,gB3,simprocAttr,h5,h3,h4,Ql,hlt,hk0,hx,Aa s313,hF,c1,hw]
   all_goals exact ih (k+1) true _ _ (by omega) (by omega) (by simpa using he) rfl h3 rfl
  ·rw[if_neg (by omega),h]at he;rw[h]at hF;have c1:((0:Int)=4)=False:=by simp
   have c2:((0:Int)=5)=False:=by simp
   cases w<;>simp only[↓go1,gB3,simprocAttr,h5,h3,h4,Ql,hlt,hk0,hx,Aa s313,hF,c1,c2,hw]
   ·exact ih (k+1) false _ _ (by omega) (by omega) (by simpa using he) rfl h3 rfl
   ·exact ih (k+1) true _ _ (by omega) (by omega) (by simpa using he) rfl h3 rfl
def ok211:(Ac F211).ok Qc 211:=by
 obtain⟨S,hS,hl⟩:=A7 (Ab ok312 (Ab ok313 Ad));have s312:=hl 312 _ rfl;have s313:=hl 313 _ rfl;clear hl;refine Ay (S:=S) hS fn211 (λds r h=>?_) (λds r h=>?_)
 ·unfold F211 at h;split at h
  ·simp
  ·cases h
 ·unfold F211 at h;split at h
  ·rename_i s;split at h
   ·rename_i hs;simp only[Qb]at h;subst h;unfold dc211 AW;have c0:((64:Int)<(s.length:Int))=(64<s.length):=by simp only[eq_iff_iff];omega
    have hF:F312 [.str s]=some (.slice false [] ((splitC 47 s).map .str)):=if_pos hs;have hb:=splitB_okL hs;by_cases h64:64<s.length
    ·simp only[↓go1,gB3,simprocAttr,c0,h64]
    ·simp only[↓go1,gB3,simprocAttr,c0,h64,Aa s312,hF];unfold Ga;generalize splitC 47 s=l at hb hF ⊢;have hb1:=hb.1;refine loop211 (nl:=false) (t:=[]) (e:=DL false l) hb s313 (λst h1 h2=>?_) (λst w h1 h2 h3=>?_) l.length 0 false _ _ (by omega) (by omega) rfl rfl rfl rfl
     ·simp only[↓go1,gB3,reduceIte,h2,h1,h64]
     ·have c1:((6:Int)<(l.length:Int))=(6<l.length):=by simp only[eq_iff_iff];omega
      cases w<;>simp only[↓go1,gB3,simprocAttr,h1,h2,h3,h64,Ql,c1];refine ifQ.intro (λh=>?_) (λh=>?_)<;>simp only[↓go1,gB3,simprocAttr,h,h1,h64]
   ·cases h
  ·cases h
end Go.Vd
namespace Go.Proofs
open Go.Shelf
def lays146_ren:Go.Shelf.Ren:=⟨λ|146=>88|221=>186|268=>286|138=>287|143=>288|195=>353|197=>354|218=>355|219=>356|260=>389|217=>390|225=>391|224=>392|267=>393|266=>406|314=>407|n=>n,λ|9=>9|31=>28|3=>3|4=>4|0=>0|105=>423|21=>21|5=>5|46=>137|119=>462|139=>465|138=>464|146=>398|51=>392|n=>n,λ|1=>0|3=>1|4=>2|n=>n⟩
def lays146:Go.Proofs.Lays.n146 Qc lays146_ren:={
 mixed:=by kernel_rfl
 f138:=func287.trans (congrArg some (by kernel_rfl))
 f143:=func288.trans (congrArg some (by kernel_rfl))
 f146:=func88.trans (congrArg some (by kernel_rfl))
 f195:=func353.trans (congrArg some (by kernel_rfl))
 f197:=func354.trans (congrArg some (by kernel_rfl))
 f217:=func390.trans (congrArg some (by kernel_rfl))
 f218:=func355.trans (congrArg some (by kernel_rfl))
 f219:=func356.trans (congrArg some (by kernel_rfl))
 f221:=func186.trans (congrArg some (by kernel_rfl))
 f224:=func392.trans (congrArg some (by kernel_rfl))
 f225:=func391.trans (congrArg some (by kernel_rfl))
 f260:=func389.trans (congrArg some (by kernel_rfl))
 f266:=func406.trans (congrArg some (by kernel_rfl))
 f267:=func393.trans (congrArg some (by kernel_rfl))
 f268:=func286.trans (congrArg some (by kernel_rfl))
 f314:=func407.trans (congrArg some (by kernel_rfl))
 t0:=underlying0
 a0:=isAgg0
 z0:=sizeOf0
 v0:=zeroValue0
 t3:=underlying3
 a3:=isAgg3
 z3:=sizeOf3
 v3:=zeroValue3
 t4:=underlying4
 a4:=isAgg4
 z4:=sizeOf4
 v4:=zeroValue4
 t5:=underlying5
 a5:=isAgg5
 z5:=sizeOf5
 v5:=zeroValue5
 t9:=underlying9
 a9:=isAgg9
 z9:=sizeOf9
 v9:=zeroValue9
 t21:=underlying21
 a21:=isAgg21
 z21:=sizeOf21
 v21:=zeroValue21
 t31:=underlying28
 a31:=isAgg28
 z31:=sizeOf28
 v31:=zeroValue28
 t46:=underlying137
 a46:=isAgg137
 z46:=sizeOf137
 v46:=zeroValue137
 t51:=underlying392
 a51:=isAgg392
 z51:=sizeOf392
 v51:=zeroValue392
 t105:=underlying423
 a105:=isAgg423
 z105:=sizeOf423
 v105:=zeroValue423
 t119:=underlying462
 a119:=isAgg462
 z119:=sizeOf462
 t138:=underlying464
 a138:=isAgg464
 z138:=sizeOf464
 v138:=zeroValue464
 t139:=underlying465
 a139:=isAgg465
 z139:=sizeOf465
 v139:=zeroValue465
 t146:=underlying398
 a146:=isAgg398
 z146:=sizeOf398
 v146:=zeroValue398
 g1:=by kernel_rfl
 g3:=by kernel_rfl
 g4:=by kernel_rfl}
end Go.Proofs
namespace Go.Vd
open Go.Proofs Go.RowKit
def ok88:(Ac CZ).ok Qc 88:=split_ok lays146 (by kernel_rfl) ⟨_,func88,by kernel_rfl,by kernel_rfl⟩
open Classical in
def F300:List D->Option D
 |[.str s]=>if s.length<=1000000 then some (.tup [if AW s=0 then .slice false [] ((splitC 47 s).map .str)else .slice true [] [],.int .i64 (AW s)])else none
 |_=>none
def F360_of{l:List Bs}{nl:Bool}{t:Id}(h:okL l):F360 [.slice nl t (l.map .str)]=some (.int .i64 (Ga l)):=by
 simp only[F360,FT];exact if_pos h
def ok300:(Ac F300).ok Qc 300:=by
 obtain⟨S,hS,hl⟩:=A7 (Ab ok88 (Ab ok360 Ad));have s88:=hl 88 _ rfl;have s360:=hl 360 _ rfl;clear hl;refine Ay (S:=S) hS fn300 (λds r h=>?_) (λds r h=>?_)
 ·unfold F300 at h;split at h
  ·simp
  ·cases h
 ·unfold F300 at h;split at h
  ·rename_i s;split at h
   ·rename_i hs;simp only[Qb]at h;subst h;unfold dc300 AW;have c0:((64:Int)<(s.length:Int))=(64<s.length):=by simp only[eq_iff_iff];omega
    have c5:((5:Int)=0)=False:=by simp
    have hF:CZ [.str s,.str [47]]=some (.slice false [] ((splitC 47 s).map .str)):=if_pos hs;have hG:=F360_of (nl:=false) (t:=[]) (splitB_okL hs);have hc:((splitC 47 s).map D.str).all D.calm=true:=by simp[Qr];intros;rfl
    by_cases h64:64<s.length
    ·simp only[↓go1,gB3,simprocAttr,c0,h64,c5]
    ·simp only[↓go1,gB3,simprocAttr,c0,h64,Aa s88,Aa s360,hF,hG];refine ifQ.intro (λh=>?_) (λh=>?_)<;>simp only[↓go1,gB3,simprocAttr,h,h64]
   ·cases h
  ·cases h
def F201:List D->Option D
 |[.str s]=>if s.length<=1000000 then some (.int .i64 (AW s))else none
 |_=>none
def ok201:(Ac F201).ok Qc 201:=by
 obtain⟨S,hS,hl⟩:=A7 (Ab ok300 Ad);have s300:=hl 300 _ rfl;clear hl;refine Ay (S:=S) hS fn201 (λds r h=>?_) (λds r h=>?_)
 ·unfold F201 at h;split at h
  ·simp
  ·cases h
 ·unfold F201 at h;split at h
  ·rename_i s;split at h
   ·rename_i hs;simp only[Qb]at h;subst h;have hF:F300 [.str s]=some (.tup [if AW s=0 then .slice false [] ((splitC 47 s).map .str)else .slice true [] [],.int .i64 (AW s)]):=by
     simp only[F300,if_pos hs]
    unfold dc201;simp only[↓go1,gB3,simprocAttr,Aa s300,hF]
   ·cases h
  ·cases h
end Go.Vd
namespace Go.Vd
open Go.Proofs
def dc206:DC:=(sr [cb 4 false] (sr [mm 5 0,mm 6 1,bt 7 .eql 5 6,mm 8 7,gm 9 0 3 false,gm 10 1 3 false,gc 11 301 [(.t 9),(.t 10)] 3 false,po 12 8 11,mm 4 12] .ret))
def fn206:Fn Qc 206 13 dc206 [.t 4]:=Am func206
def dc301:DC:=(sr [cb 4 false] (sr [mm 8 0,mm 9 1,c2 10 331 8 9,mm 7 10,xx 11 0 7,xx 12 1 7,mm 5 11,mm 6 12] (sr [mm 13 6,mm 4 13] .ret)))
def fn301:Fn Qc 301 14 dc301 [.t 4]:=Am func301
def dc331:DC:=(sr [cs 4 [],cb 5 false] (.seq (sr [mm 8 1,bs 9 .eql 8 []] (cd 9 (sr [mm 10 0,mm 11 0,bs 12 .neq 11 [],mm 4 10,mm 5 12] .ret) .skip)) (sr [mm 14 0,mm 15 1,c2 16 200 14 15,mm 13 16,xx 17 0 13,xx 18 1 13,mm 6 17,mm 7 18] (.seq (sr [mm 19 7,nt 20 19] (cd 20 (sr [cs 4 [],cb 5 false] .ret) .skip)) (sr [mm 21 6,cc 22 200 [(.t 21),(.c (.str [47]))],xx 23 0 22,xx 24 1 22,mm 4 23,mm 5 24] .ret)))))
def fn331:Fn Qc 331 25 dc331 [.t 4,.t 5]:=Am func331
def dc200:DC:=(sr [cs 4 [],cb 5 false] (sr [mm 6 0,mm 7 1,c2 8 299 6 7,xx 9 0 8,xx 10 1 8,mm 4 9,mm 5 10] .ret))
def fn200:Fn Qc 200 11 dc200 [.t 4,.t 5]:=Am func200
def dc299:DC:=(sr [cs 4 [],cb 5 false] (.seq (sr [mm 6 0,mm 7 1,c2 8 323 6 7,nt 9 8] (cd 9 (sr [mm 10 0,mm 4 10,cb 5 false] .ret) .skip)) (sr [mm 11 0,mm 12 1,nn 13 true 12,oo 14 (.cuts (.t 11) (some (.t 13)) none),mm 4 14,cb 5 true] .ret)))
def fn299:Fn Qc 299 15 dc299 [.t 4,.t 5]:=Am func299
def dc323:DC:=(sr [cb 4 false] (sr [mm 5 0,nn 6 true 5,mm 7 1,nn 8 true 7,bt 9 .geq 6 8,mm 10 9,gm 11 0 5 true,gm 12 1 5 true,gn 13 true 12 5 true,og 14 (.cuts (.t 11) none (some (.t 13))) 5 true,gm 15 1 5 true,gt 16 .eql 14 15 5 true,pa 17 10 16,mm 4 17] .ret))
def fn323:Fn Qc 323 18 dc323 [.t 4]:=Am func323
def dc111:DC:=(sr [cb 4 false] (sr [mm 5 1,bs 6 .eql 5 [],mm 7 6,gm 8 0 2 false,gm 9 1 2 false,gt 10 .eql 8 9 2 false,po 11 7 10,mm 12 11,gm 13 0 7 false,gm 14 1 7 false,gs 15 .add 14 [47] 7 false,gc 16 212 [(.t 13),(.t 15)] 7 false,po 17 12 16,mm 4 17] .ret))
def fn111:Fn Qc 111 18 dc111 [.t 4]:=Am func111
def dc212l0:DC:=(.seq (sr [mm 11 5,mm 12 1,nn 13 true 12,bt 14 .lss 11 13] (cd 14 .skip (.exit 0))) (.seq (.block 1 (.seq (.drawn [mm 17 0,mm 18 5,oo 19 (.idxs (.t 17) (.t 18)),mm 20 1,mm 21 5,oo 22 (.idxs (.t 20) (.t 21)),bt 23 .neq 19 22] []) (cd 23 (sr [cb 4 false] .ret) .skip))) (.row [mm 15 5,bi 16 .add 15 1,mm 5 16])))
def dc212:DC:=(sr [cb 4 false] (.seq (sr [mm 6 1,nn 7 true 6,mm 8 0,nn 9 true 8,bt 10 .gtr 7 9] (cd 10 (sr [cb 4 false] .ret) .skip)) (.seq (sr [ci 5 0] (.block 0 (.loop dc212l0))) (sr [cb 4 true] .ret))))
def fn212:Fn Qc 212 24 dc212 [.t 4]:=Am func212
end Go.Vd
namespace Go.Vd
open Go.Proofs Go.RowKit
def BU(s t:Bs):Bool:=decide (s.take t.length=t)
def hasP_len{s t:Bs}(h:BU s t=true):t.length<=s.length:=by
 have h1:s.take t.length=t:=by simpa[BU]using h
 have h2:min t.length s.length=t.length:=by simpa using congrArg Zg h1
 omega
def Cc(s top:Bs):Bool:=if top=[]then decide (s≠[])else BU s top&&BU (s.drop top.length) [47]
def A4(s top:Bs):Bool:=decide (s=top)||Cc s top
def CO(s top:Bs):Bs:=if top=[]then s else if BU s top=true then(if BU (s.drop top.length) [47]=true then(s.drop top.length).drop 1 else s.drop top.length)else []
def F323:List D->Option D
 |[.str s,.str t]=>some (.bool (BU s t))
 |_=>none
def ok323:(Ac F323).ok Qc 323:=by
 refine Ay (S:=λ_=>none) AL fn323 (λds r h=>?_) (λds r h=>?_)
 ·unfold F323 at h;split at h
  ·simp
  ·cases h
 ·unfold F323 at h;split at h
  ·rename_i s t;simp only[Qb]at h;subst h;unfold dc323;have c1:((t.length:Int)<=(s.length:Int))=(t.length<=s.length):=by simp only[eq_iff_iff];omega
   have c2:((0:Int)<=(t.length:Int))=True:=eq_true (by omega);by_cases hl:t.length<=s.length
   ·simp only[↓go1,gB3,simprocAttr,c1,c2,hl,Qe,QF,Qt,and_self];simp[BU]
   ·simp only[↓go1,gB3,simprocAttr,c1,hl];have:BU s t=false:=by rw[QR];intro h;exact hl (hasP_len h)
    simp[this]
  ·cases h
def F299:List D->Option D
 |[.str s,.str t]=>some (.tup [.str (if BU s t=true then s.drop t.length else s),.bool (BU s t)])
 |_=>none
def ok299:(Ac F299).ok Qc 299:=by
 obtain⟨S,hS,hl⟩:=A7 (Ab ok323 Ad);have s323:=hl 323 _ rfl;clear hl;refine Ay (S:=S) hS fn299 (λds r h=>?_) (λds r h=>?_)
 ·unfold F299 at h;split at h
  ·simp
  ·cases h
 ·unfold F299 at h;split at h
  ·rename_i s t;simp only[Qb]at h;subst h;unfold dc299;have c1:((t.length:Int)<=(s.length:Int))=(t.length<=s.length):=by simp only[eq_iff_iff];omega
   have c2:((0:Int)<=(t.length:Int))=True:=eq_true (by omega);have hF:F323 [.str s,.str t]=some (.bool (BU s t)):=rfl;cases hp:BU s t with
   |false=>simp only[↓go1,gB3,simprocAttr,Aa s323,hF,hp]
   |true=>
    have hl:=hasP_len hp;have e:(s.drop t.length).take (s.length-t.length)=s.drop t.length:=QQ (by simp);simp only[↓go1,gB3,simprocAttr,Aa s323,hF,hp,c1,c2,hl,Qe,and_self,e]
  ·cases h
def F200:List D->Option D
 |[.str s,.str t]=>some (.tup [.str (if BU s t=true then s.drop t.length else s),.bool (BU s t)])
 |_=>none
def ok200:(Ac F200).ok Qc 200:=by
 obtain⟨S,hS,hl⟩:=A7 (Ab ok299 Ad);have s299:=hl 299 _ rfl;clear hl;refine Ay (S:=S) hS fn200 (λds r h=>?_) (λds r h=>?_)
 ·unfold F200 at h;split at h
  ·simp
  ·cases h
 ·unfold F200 at h;split at h
  ·rename_i s t;simp only[Qb]at h;subst h;unfold dc200;have hF:F299 [.str s,.str t]=some (.tup [.str (if BU s t=true then s.drop t.length else s),.bool (BU s t)]):=rfl;simp only[↓go1,gB3,simprocAttr,Aa s299,hF]
  ·cases h
def F331:List D->Option D
 |[.str s,.str t]=>some (.tup [.str (CO s t),.bool (Cc s t)])
 |_=>none
def ok331:(Ac F331).ok Qc 331:=by
 obtain⟨S,hS,hl⟩:=A7 (Ab ok200 Ad);have s200:=hl 200 _ rfl;clear hl;refine Ay (S:=S) hS fn331 (λds r h=>?_) (λds r h=>?_)
 ·unfold F331 at h;split at h
  ·simp
  ·cases h
 ·unfold F331 at h;split at h
  ·rename_i s t;simp only[Qb]at h;subst h;unfold dc331;have hF:∀s t,F200 [.str s,.str t]=some (.tup [.str (if BU s t=true then s.drop t.length else s),.bool (BU s t)]):=λ_ _=>rfl
   unfold CO Cc;by_cases ht:t=[]
   ·have ht':(t=[])=True:=eq_true ht;simp only[↓go1,gB3,simprocAttr,ht']
    try simp
   ·have ht':(t=[])=False:=eq_false ht;cases h1:BU s t with
    |false=>simp only[↓go1,gB3,simprocAttr,ht',Aa s200,hF,h1,Q2]
    |true=>
     cases h2:BU (s.drop t.length) [47]with
     |false=>simp only[↓go1,gB3,simprocAttr,ht',Aa s200,hF,h1,h2]
     |true=>simp only[↓go1,gB3,simprocAttr,ht',Aa s200,hF,h1,h2,Qg,Qv]
  ·cases h
def F301:List D->Option D
 |[.str s,.str t]=>some (.bool (Cc s t))
 |_=>none
def ok301:(Ac F301).ok Qc 301:=by
 obtain⟨S,hS,hl⟩:=A7 (Ab ok331 Ad);have s331:=hl 331 _ rfl;clear hl;refine Ay (S:=S) hS fn301 (λds r h=>?_) (λds r h=>?_)
 ·unfold F301 at h;split at h
  ·simp
  ·cases h
 ·unfold F301 at h;split at h
  ·rename_i s t;simp only[Qb]at h;subst h;unfold dc301;have hF:F331 [.str s,.str t]=some (.tup [.str (CO s t),.bool (Cc s t)]):=rfl;simp only[↓go1,gB3,simprocAttr,Aa s331,hF]
  ·cases h
def F206:List D->Option D
 |[.str s,.str t]=>some (.bool (A4 s t))
 |_=>none
def ok206:(Ac F206).ok Qc 206:=by
 obtain⟨S,hS,hl⟩:=A7 (Ab ok301 Ad);have s301:=hl 301 _ rfl;clear hl;refine Ay (S:=S) hS fn206 (λds r h=>?_) (λds r h=>?_)
 ·unfold F206 at h;split at h
  ·simp
  ·cases h
 ·unfold F206 at h;split at h
  ·rename_i s t;simp only[Qb]at h;subst h;unfold dc206;have hF:F301 [.str s,.str t]=some (.bool (Cc s t)):=rfl;unfold A4;by_cases hs:s=t
   ·have hs':(s=t)=True:=eq_true hs;simp only[↓go1,gB3,simprocAttr,hs']
    try simp
   ·have hs':(s=t)=False:=eq_false hs;simp only[↓go1,gB3,simprocAttr,hs',Aa s301,hF]
    try simp
  ·cases h
theorem loop212 {S : Summs} {ns : Id} {s t : Bs} {Q : Ex → St → Prop} (hb : s.length ≤ 1000000) (hl : t.length ≤ s.length)
    (hret : ∀ st, BU s t = false → st.s 4 = .bool false → Q .ret st) (hexit : ∀ st, BU s t = true → Q (.exit 0) st) :
    ∀ (n k : Nat) st g, n = t.length - k → k ≤ t.length → s.take k = t.take k → st.s 5 = .int .i64 (k : Int) → st.s 0 = .str s → st.s 1 = .str t → A8 S ns dc212l0 Q st g := by
  intro n
  induction n with
  | zero =>
    intro k st g hn hk he h5 h0 h1
    refine Ae dc212l0.eq_1 ?_
    have : ¬ ((k : Int) < t.length) := by omega
    simp only [↓go1, go2, go4, simprocAttr, h5, h1, this]
    refine hexit _ ?_
    obtain rfl : k = t.length := by omega
    simp [BU, he]
  | succ n ih =>
    intro k st g hn hk he h5 h0 h1
    refine Ae dc212l0.eq_1 ?_
    have hk1 : k < t.length := by omega
    have hk2 : k < s.length := by omega
    have hlt : ((k : Int) < t.length) := by omega
    have hk0 : (0 : Int) ≤ (k : Int) := by omega
    have hx : s[k]? = some s[k] := Qd hk2
    have hy : t[k]? = some t[k] := Qd hk1
    have hw : IntKind.i64.wrap ((k : Int) + 1) = ((k + 1 : Nat) : Int) := w64 (by omega) (by omega)
    have hc : ((s[k].toNat : Int) = (t[k].toNat : Int)) = (s[k] = t[k]) := by
      simp only [eq_iff_iff]
      constructor
      · intro h; exact UInt8.toNat_inj.1 (by omega)
      · intro h; rw [h]
    simp only [↓go1, go2, go4, simprocAttr, h5, h0, h1, hlt, hk0, hx, hy, Qe, hc]
    refine Ao.intro (Aj rfl) ?_
    simp only [↓go1, go2, reduceIte, Qk]
    refine ifQ.intro (fun h => ?_) (fun h => ?_)
    · simp only [↓go1, go2, go4, simprocAttr, h5, h, hw]
      first
        | exact ih (k + 1) _ _ (by omega) (by omega) (by rw [QE, QE, he, hx, hy, h]) rfl h0 h1
        | (refine hret _ ?_ rfl
           rw [QR]; intro hp
           have hp : s.take t.length = t := by simpa [BU] using hp
           have : s[k] = t[k] := by
             have e := congrArg (·[k]?) hp
             simp only [Qp hk1, hx, hy, Qb] at e
             exact e
           exact h this)
    · simp only [↓go1, go2, go4, Qj, h]
      first
        | exact ih (k + 1) _ _ (by omega) (by omega) (by rw [QE, QE, he, hx, hy, Classical.not_not.1 h]) rfl h0 h1
        | (refine hret _ ?_ rfl
           rw [QR]; intro hp
           have hp : s.take t.length = t := by simpa [BU] using hp
           have : s[k] = t[k] := by
             have e := congrArg (·[k]?) hp
             simp only [Qp hk1, hx, hy, Qb] at e
             exact e
           exact h this)
def F212:List D->Option D
 |[.str s,.str t]=>if s.length<=1000000 then some (.bool (BU s t))else none
 |_=>none
def ok212:(Ac F212).ok Qc 212:=by
 refine Ay (S:=λ_=>none) AL fn212 (λds r h=>?_) (λds r h=>?_)
 ·unfold F212 at h;split at h
  ·simp
  ·cases h
 ·unfold F212 at h;split at h
  ·rename_i s t;split at h
   ·rename_i hc;simp only[Qb]at h;subst h;unfold dc212;have c1:((s.length:Int)<(t.length:Int))=(s.length<t.length):=by simp only[eq_iff_iff];omega
    by_cases hl:s.length<t.length
    ·have:BU s t=false:=by rw[QR];intro h;have:=hasP_len h;omega
     simp only[↓go1,gB3,simprocAttr,c1,hl,this]
    ·simp only[↓go1,go2,go4,simprocAttr,c1,hl];refine loop212 (s:=s) (t:=t) hc (by omega) (λst h1 h2=>?_) (λst h1=>?_) t.length 0 _ _ (by omega) (by omega) rfl rfl rfl rfl
     ·simp only[↓go1,gB3,h1,h2]
     ·simp only[↓go1,gB3,reduceIte,Qj,h1]
   ·cases h
  ·cases h
def hasP_slash(s t:Bs):BU s (t++[47])=(BU s t&&BU (s.drop t.length) [47]):=by
 have h:=Q9 t.length s;rw[Qm];simp only[BU,decide_eq_true_eq,QS,List.length_append,Qg,Qv,QA];constructor
 ·intro e;rw[List.take_add]at e;have e1:(s.take t.length).length=t.length:=by
   have:=congrArg Zg e;simp at this ⊢;omega
  have:=List.append_inj e e1;exact this
 ·intro⟨e1,e2⟩;rw[List.take_add,e1,e2]
def within_ref(s t:Bs):(decide (t=[])||decide (s=t)||BU s (t++[47]))=A4 s t:=by
 unfold A4 Cc;rw[hasP_slash];by_cases h:t=[]
 ·subst h;by_cases hs:s=[]<;>simp[hs]
 ·simp[h]
def F111:List D->Option D
 |[.str s,.str t]=>if s.length<=1000000∧t.length<=1000000 then some (.bool (A4 s t))else none
 |_=>none
def ok111:(Ac F111).ok Qc 111:=by
 obtain⟨S,hS,hl⟩:=A7 (Ab ok212 Ad);have s212:=hl 212 _ rfl;clear hl;refine Ay (S:=S) hS fn111 (λds r h=>?_) (λds r h=>?_)
 ·unfold F111 at h;split at h
  ·simp
  ·cases h
 ·unfold F111 at h;split at h
  ·rename_i s t;split at h
   ·rename_i hc;simp only[Qb]at h;subst h;unfold dc111;have hF:F212 [.str s,.str (t++[47])]=some (.bool (BU s (t++[47]))):=if_pos hc.1;have hl:(t.length+1<=9223372036854775807)=True:=eq_true (by omega);rw[←within_ref];by_cases ht:t=[]
    ·have ht':(t=[])=True:=eq_true ht;simp only[↓go1,gB3,simprocAttr,ht']
     try simp
    ·have ht':(t=[])=False:=eq_false ht;by_cases hs:s=t
     ·have hs':(s=t)=True:=eq_true hs;simp only[↓go1,gB3,simprocAttr,ht',hs']
      try simp
     ·have hs':(s=t)=False:=eq_false hs;simp only[↓go1,gB2,go4,simprocAttr,ht',hs',Aa s212,hF,hl]
      try simp
   ·cases h
  ·cases h
end Go.Vd
namespace Go.Vd
open Go.Proofs
def dc27:DC:=(sr [oo 2 (.mv (.c (.int .u8 0)))] (.seq (sr [mm 3 0] (.block 0 (.seq (sr [bu 5 .eql 3 9,mm 4 5] (cd 4 .skip (sr [bu 6 .eql 3 14,mm 4 6] (cd 4 .skip (.row [bu 7 .eql 3 18,mm 4 7]))))) (cd 4 (sr [oo 2 (.mv (.c (.int .u8 1)))] .ret) (.seq (sr [bu 9 .eql 3 10,mm 8 9] (cd 8 .skip (.row [bu 10 .eql 3 15,mm 8 10]))) (cd 8 (sr [oo 2 (.mv (.c (.int .u8 2)))] .ret) (.seq (sr [bu 12 .eql 3 11,mm 11 12] (cd 11 .skip (.row [bu 13 .eql 3 12,mm 11 13]))) (cd 11 (sr [oo 2 (.mv (.c (.int .u8 4)))] .ret) (.seq (sr [bu 15 .eql 3 13,mm 14 15] (cd 14 .skip (.row [bu 16 .eql 3 16,mm 14 16]))) (cd 14 (sr [oo 2 (.mv (.c (.int .u8 8)))] .ret) (sr [bu 18 .eql 3 17,mm 17 18] (cd 17 (sr [oo 2 (.mv (.c (.int .u8 16)))] .ret) (.seq (sr [bu 20 .eql 3 3,mm 19 20] (cd 19 .skip (sr [bu 21 .eql 3 4,mm 19 21] (cd 19 .skip (sr [bu 22 .eql 3 5,mm 19 22] (cd 19 .skip (sr [bu 23 .eql 3 6,mm 19 23] (cd 19 .skip (sr [bu 24 .eql 3 7,mm 19 24] (cd 19 .skip (.row [bu 25 .eql 3 8,mm 19 25]))))))))))) (cd 19 (sr [oo 2 (.mv (.c (.int .u8 32)))] .ret) .skip)))))))))))))) (sr [oo 2 (.mv (.c (.int .u8 0)))] .ret)))
def fn27:Fn Qc 27 26 dc27 [.t 2]:=Am func27
def dc29:DC:=(sr [cb 2 false] (.seq (sr [mm 3 0] (.block 0 (.seq (sr [bu 5 .eql 3 9,mm 4 5] (cd 4 .skip (sr [bu 6 .eql 3 14,mm 4 6] (cd 4 .skip (.row [bu 7 .eql 3 17,mm 4 7]))))) (cd 4 (sr [cb 2 false] .ret) .skip)))) (sr [mm 8 0,bu 9 .geq 8 4,mm 10 9,gm 11 0 2 true,gu 12 .leq 11 18 2 true,pa 13 10 12,mm 2 13] .ret)))
def fn29:Fn Qc 29 14 dc29 [.t 2]:=Am func29
def dc44l0:DC:=(.seq (sr [mm 7 3,mm 8 0,nn 9 false 8,bt 10 .lss 7 9] (cd 10 .skip (.exit 0))) (.seq (.block 1 (sr [mm 13 0,mm 14 3,ii 15 2 13 14,ff 16 0 15,ll 17 16,nn 18 true 17,bi 19 .gtr 18 100] (cd 19 (sr [ci 2 1] .ret) .skip))) (.row [mm 11 3,bi 12 .add 11 1,mm 3 12])))
def dc44:DC:=(sr [ci 2 0] (.seq (sr [mm 4 0,nn 5 false 4,bi 6 .gtr 5 8] (cd 6 (sr [ci 2 1] .ret) .skip)) (.seq (sr [ci 3 0] (.block 0 (.loop dc44l0))) (sr [ci 2 0] .ret))))
def fn44:Fn Qc 44 20 dc44 [.t 2]:=Am func44
def dc202l0:DC:=(sr [oo 14 (.next (.t 13)),xx 15 0 14] (.seq (cd 15 .skip (.exit 0)) (.block 1 (sr [xx 16 2 14,mm 4 16] (sr [mm 17 4,oo 18 (.bin .lss (.t 17) (.c (.int .i32 97))),mm 19 18,gm 20 4 2 false,og 21 (.bin .gtr (.t 20) (.c (.int .i32 122))) 2 false,po 22 19 21,mm 23 22,gm 24 4 6 true,og 25 (.bin .lss (.t 24) (.c (.int .i32 48))) 6 true,gm 26 25 6 true,gm 27 4 9 false,og 28 (.bin .gtr (.t 27) (.c (.int .i32 57))) 9 false,og 29 (.pick (.t 26) (.c (.bool true)) (.t 28)) 6 true,pa 30 23 29] (cd 30 (sr [cb 2 false] .ret) .skip))))))
def dc202:DC:=(sr [cb 2 false] (.seq (sr [mm 5 0,bs 6 .eql 5 [],mm 7 6,gm 8 0 2 false,gn 9 true 8 2 false,gi 10 .gtr 9 8 2 false,po 11 7 10] (cd 11 (sr [cb 2 false] .ret) .skip)) (.seq (sr [mm 12 0,oo 13 (.range (.t 12))] (.block 0 (.loop dc202l0))) (sr [cb 2 true] .ret))))
def fn202:Fn Qc 202 31 dc202 [.t 2]:=Am func202
def dc98:DC:=(sr [ob 1 0,ci 2 0] (sr [ff 4 2 1,ll 5 4,bi 6 .eql 5 0,mm 3 6] (.seq (sr [ff 7 0 1,ll 8 7] (.block 0 (sr [bu 10 .eql 8 1,mm 9 10] (cd 9 (.row [mm 11 3,mm 12 11,gf 13 1 1 1 true,gl 14 13 1 true,gc 15 201 [(.t 14)] 1 true,gi 16 .eql 15 0 1 true,pa 17 12 16,mm 3 17]) (sr [bu 19 .eql 8 2,mm 18 19] (cd 18 (.row [ff 20 2 1,ll 21 20,bi 22 .geq 21 1,mm 23 22,gf 24 2 1 3 true,gl 25 24 3 true,gi 26 .leq 25 30 3 true,pa 27 23 26,mm 28 27,gf 29 1 1 8 true,gl 30 29 8 true,gc 31 201 [(.t 30)] 8 true,gi 32 .eql 31 0 8 true,pa 33 28 32,mm 3 33]) (sr [bu 35 .eql 8 3,mm 34 35] (cd 34 (.row [mm 36 3,mm 37 36,gf 38 1 1 1 true,gl 39 38 1 true,gc 40 202 [(.t 39)] 1 true,pa 41 37 40,mm 3 41]) (.seq (sr [bu 43 .eql 8 4,mm 42 43] (cd 42 .skip (.row [bu 44 .eql 8 5,mm 42 44]))) (cd 42 (.row [mm 45 3,mm 46 45,gf 47 1 1 1 true,gl 48 47 1 true,gs 49 .eql 48 [] 1 true,pa 50 46 49,mm 3 50]) (sr [ci 2 22] .ret))))))))))) (.seq (sr [mm 51 3,nt 52 51] (cd 52 (sr [ci 2 2] .ret) .skip)) (sr [ci 2 0] .ret)))))
def fn98:Fn Qc 98 53 dc98 [.t 2]:=Am func98
def dc213:DC:=(sr [cb 2 false] (sr [mm 3 0,oo 4 (.build [zu,zs,zi] [(0,1,(.c (.int .u8 3))),(1,1,(.t 3))]),c1 5 98 4,bi 6 .eql 5 0,mm 2 6] .ret))
def fn213:Fn Qc 213 7 dc213 [.t 2]:=Am func213
def dc217l0:DC:=(.seq (sr [mm 12 3,mm 13 0,nn 14 true 13,bt 15 .lss 12 14] (cd 15 .skip (.exit 0))) (.seq (.block 1 (sr [mm 18 0,mm 19 3,oo 20 (.idxs (.t 18) (.t 19)),bu 21 .lss 20 97,mm 22 21,gm 23 0 4 false,gm 24 3 4 false,og 25 (.idxs (.t 23) (.t 24)) 4 false,gu 26 .gtr 25 122 4 false,po 27 22 26,mm 28 27,gm 29 0 10 true,gm 30 3 10 true,og 31 (.idxs (.t 29) (.t 30)) 10 true,gu 32 .lss 31 48 10 true,gm 33 32 10 true,gm 34 0 15 false,gm 35 3 15 false,og 36 (.idxs (.t 34) (.t 35)) 15 false,gu 37 .gtr 36 57 15 false,og 38 (.pick (.t 33) (.c (.bool true)) (.t 37)) 10 true,pa 39 28 38] (cd 39 (sr [cb 2 false] .ret) .skip))) (.row [mm 16 3,bi 17 .add 16 1,mm 3 17])))
def dc217:DC:=(sr [cb 2 false] (.seq (sr [mm 4 0,nn 5 true 4,bi 6 .lss 5 1,mm 7 6,gm 8 0 3 false,gn 9 true 8 3 false,gi 10 .gtr 9 8 3 false,po 11 7 10] (cd 11 (sr [cb 2 false] .ret) .skip)) (.seq (sr [ci 3 0] (.block 0 (.loop dc217l0))) (sr [cb 2 true] .ret))))
def fn217:Fn Qc 217 40 dc217 [.t 2]:=Am func217
def dc314:DC:=(sr [ob 2 0,ci 4 0] (.seq (sr [ff 6 0 2,ll 7 6,bs 8 .neq 7 []] (cd 8 (sr [ff 9 0 2,ll 10 9,c1 11 201 10,mm 5 11] (sr [mm 12 5,bi 13 .neq 12 0] (cd 13 (sr [mm 14 5,mm 4 14] .ret) .skip))) .skip)) (.seq (sr [ff 15 1 2,ll 16 15,bu 17 .gtr 16 63] (cd 17 (sr [ci 4 2] .ret) .skip)) (.seq (sr [mm 18 1,oo 19 (.mkfn 369 [(.t 2)]),c2 20 368 18 19] (cd 20 (sr [ci 4 20] .ret) .skip)) (sr [ci 4 0] .ret)))))
def fn314:Fn Qc 314 21 dc314 [.t 4]:=Am func314
def dc368:DC:=(sr [cb 4 false] (sr [mm 5 0,mm 6 1,c2 7 399 5 6,bi 8 .geq 7 0,mm 4 8] .ret))
def fn368:Fn Qc 368 9 dc368 [.t 4]:=Am func368
def dc369:DC:=(sr [ob 2 0,cb 3 false] (sr [ff 4 0 2,ll 5 4,ff 6 0 1,ll 7 6,bt 8 .eql 5 7,mm 3 8] .ret))
def fn369:Fn Qc 369 9 dc369 [.t 3]:=Am func369
def dc399l0:DC:=(sr [bt 9 .lss 8 7] (.seq (cd 9 .skip (.exit 0)) (.seq (.block 1 (sr [mm 10 8,mm 5 10] (sr [mm 11 1,mm 12 0,mm 13 5,ii 14 2 12 13,lk 15 2 14,oo 16 (.call (.t 11) [(.t 15)])] (cd 16 (sr [mm 17 5,mm 4 17] .ret) .skip)))) (.row [bi 18 .add 8 1,mm 8 18]))))
def dc399:DC:=(sr [ci 4 0] (.seq (sr [mm 6 0,nn 7 false 6,ci 8 0] (.block 0 (.loop dc399l0))) (sr [oo 4 (.mv (.c (.int .i64 (-1))))] .ret)))
def fn399:Fn Qc 399 19 dc399 [.t 4]:=Am func399
def dc214l0:DC:=(sr [bt 12 .lss 11 10] (.seq (cd 12 .skip (.exit 0)) (.seq (.block 1 (sr [mm 13 11,ii 14 2 9 11,lk 15 2 14,al 4 [zs,zu],mm 3 13,st 2 4 15] (.seq (.drawn [lk 16 2 4,mm 17 0,mm 18 3,oo 19 (.cutl 2 (.t 17) none (some (.t 18))),c2 20 314 16 19,mm 5 20] []) (sr [mm 21 5,bi 22 .neq 21 0] (cd 22 (sr [mm 23 5,mm 2 23] .ret) .skip))))) (.row [bi 24 .add 11 1,mm 11 24]))))
def dc214:DC:=(sr [ci 2 0] (.seq (sr [mm 6 0,nn 7 false 6,bi 8 .gtr 7 4] (cd 8 (sr [ci 2 24] .ret) .skip)) (.seq (sr [mm 9 0,nn 10 false 9,ci 11 0] (.block 0 (.loop dc214l0))) (sr [ci 2 0] .ret))))
def fn214:Fn Qc 214 25 dc214 [.t 2]:=Am func214
def dc218l0:DC:=(.seq (sr [mm 41 4,mm 42 3,bt 43 .lss 41 42] (cd 43 .skip (.exit 2))) (.seq (.block 3 (.seq (.drawn [mm 46 0,mm 47 4,ii 48 2 46 47,ff 49 0 48,ll 50 49,mm 51 0,mm 52 3,ii 53 2 51 52,ff 54 0 53,ll 55 54,bt 56 .eql 50 55] []) (cd 56 (sr [ci 2 20] .ret) .skip))) (.row [mm 44 4,bi 45 .add 44 1,mm 4 45])))
def dc218l1:DC:=(.seq (sr [mm 8 3,mm 9 0,nn 10 false 9,bt 11 .lss 8 10] (cd 11 .skip (.exit 0))) (.seq (.block 1 (.seq (sr [mm 14 0,mm 15 3,ii 16 2 14 15,ff 17 0 16,ll 18 17,bs 19 .neq 18 [],mm 20 19,gm 21 0 6 true,gm 22 3 6 true,og 23 (.iaddr 2 (.t 21) (.t 22)) 6 true,gf 24 0 23 6 true,gl 25 24 6 true,gc 26 211 [(.t 25)] 6 true,gi 27 .neq 26 0 6 true,pa 28 20 27] (cd 28 (sr [mm 29 0,mm 30 3,ii 31 2 29 30,ff 32 0 31,ll 33 32,c1 34 211 33,mm 2 34] .ret) .skip)) (.seq (sr [mm 35 0,mm 36 3,ii 37 2 35 36,ff 38 1 37,ll 39 38,bu 40 .gtr 39 63] (cd 40 (sr [ci 2 2] .ret) .skip)) (sr [ci 4 0] (.block 2 (.loop dc218l0)))))) (.row [mm 12 3,bi 13 .add 12 1,mm 3 13])))
def dc218:DC:=(sr [ci 2 0] (.seq (sr [mm 5 0,nn 6 false 5,bi 7 .gtr 6 4] (cd 7 (sr [ci 2 24] .ret) .skip)) (.seq (sr [ci 3 0] (.block 0 (.loop dc218l1))) (sr [ci 2 0] .ret))))
def fn218:Fn Qc 218 57 dc218 [.t 2]:=Am func218
def dc219l0:DC:=(.seq (sr [mm 6 5,bi 7 .lss 6 8] (cd 7 .skip (.exit 0))) (.seq (.block 1 (.seq (sr [mm 10 1,bu 11 .rem 10 2,bu 12 .eql 11 1,mm 13 12,gm 14 0 3 true,gu 15 .rem 14 2 3 true,gu 16 .eql 15 0 3 true,pa 17 13 16] (cd 17 (sr [cb 4 false] .ret) .skip)) (.row [mm 18 1,bu 19 .quo 18 2,mm 20 0,bu 21 .quo 20 2,mm 1 19,mm 0 21]))) (.row [mm 8 5,bi 9 .add 8 1,mm 5 9])))
def dc219:DC:=(sr [cb 4 false] (.seq (sr [ci 5 0] (.block 0 (.loop dc219l0))) (sr [cb 4 true] .ret)))
def fn219:Fn Qc 219 22 dc219 [.t 4]:=Am func219
def dc220l0:DC:=(.seq (sr [mm 7 6,mm 8 0,nn 9 false 8,bt 10 .lss 7 9] (cd 10 .skip (.exit 0))) (.seq (.block 1 (.seq (.drawn [mm 13 1,mm 14 0,mm 15 6,ii 16 2 14 15,ff 17 0 16,ll 18 17,c2 19 111 13 18,mm 20 19,gm 21 5 7 true,gi 22 .lss 21 0 7 true,gm 23 22 7 true,gm 24 0 10 false,gm 25 6 10 false,og 26 (.iaddr 2 (.t 24) (.t 25)) 10 false,gf 27 0 26 10 false,gl 28 27 10 false,gn 29 true 28 10 false,gm 30 0 10 false,gm 31 5 10 false,og 32 (.iaddr 2 (.t 30) (.t 31)) 10 false,gf 33 0 32 10 false,gl 34 33 10 false,gn 35 true 34 10 false,gt 36 .gtr 29 35 10 false,og 37 (.pick (.t 23) (.c (.bool true)) (.t 36)) 7 true,pa 38 20 37] []) (cd 38 (.row [mm 39 6,mm 5 39]) .skip))) (.row [mm 11 6,bi 12 .add 11 1,mm 6 12])))
def dc220:DC:=(sr [oo 4 (.mv (.c (.int .u8 0)))] (sr [oo 5 (.mv (.c (.int .i64 (-1))))] (.seq (sr [ci 6 0] (.block 0 (.loop dc220l0))) (.seq (sr [mm 40 5,bi 41 .lss 40 0] (cd 41 (sr [oo 4 (.mv (.c (.int .u8 0)))] .ret) .skip)) (sr [mm 42 0,mm 43 5,ii 44 2 42 43,ff 45 1 44,ll 46 45,mm 4 46] .ret)))))
def fn220:Fn Qc 220 47 dc220 [.t 4]:=Am func220
def dc95:DC:=(sr [oo 4 (.mv (.c (.int .u8 0)))] (sr [mm 6 1,mm 7 0,c1 8 199 7,c2 9 198 6 8,mm 5 9] (.seq (sr [mm 10 5,bi 11 .lss 10 0] (cd 11 (sr [oo 4 (.mv (.c (.int .u8 0)))] .ret) .skip)) (sr [mm 12 0,mm 13 5,ii 14 2 12 13,ff 15 1 14,ll 16 15,mm 4 16] .ret))))
def fn95:Fn Qc 95 17 dc95 [.t 4]:=Am func95
def dc199l0:DC:=(sr [bt 12 .lss 11 10] (.seq (cd 12 .skip (.exit 0)) (.seq (.block 1 (sr [mm 13 11,ii 14 2 9 11,lk 15 2 14,al 5 [zs,zu],mm 4 13,st 2 5 15] (.row [mm 16 3,mm 17 4,ff 18 0 5,ll 19 18,ii 20 1 16 17,st 1 20 19]))) (.row [bi 21 .add 11 1,mm 11 21]))))
def dc199:DC:=(sr [oo 2 (.mv (.c (.slice true [] [])))] (sr [mm 6 0,nn 7 false 6,oo 8 (.mksl 9 1 16 (.str []) (.t 7) (.t 7)),mm 3 8] (.seq (sr [mm 9 0,nn 10 false 9,ci 11 0] (.block 0 (.loop dc199l0))) (sr [mm 22 3,mm 2 22] .ret))))
def fn199:Fn Qc 199 23 dc199 [.t 2]:=Am func199
def dc198l0:DC:=(sr [bt 12 .lss 11 10] (.seq (cd 12 .skip (.exit 0)) (.seq (.block 1 (sr [mm 13 11,ii 14 1 9 11,ll 15 14,mm 7 13,mm 8 15] (sr [mm 16 8,nn 17 true 16,mm 18 6,bt 19 .gtr 17 18,mm 20 19,gm 21 0 4 true,gm 22 8 4 true,gc 23 206 [(.t 21),(.t 22)] 4 true,pa 24 20 23] (cd 24 (.row [mm 25 7,mm 26 8,nn 27 true 26,mm 5 25,mm 6 27]) .skip)))) (.row [bi 28 .add 11 1,mm 11 28]))))
def dc198:DC:=(sr [ci 4 0] (sr [oo 5 (.mv (.c (.int .i64 (-1)))),oo 6 (.mv (.c (.int .i64 (-1))))] (.seq (sr [mm 9 1,nn 10 false 9,ci 11 0] (.block 0 (.loop dc198l0))) (sr [mm 29 5,mm 4 29] .ret))))
def fn198:Fn Qc 198 30 dc198 [.t 4]:=Am func198
def dc215:DC:=(sr [cb 6 false] (sr [mm 7 2,mm 8 0,mm 9 1,c2 10 95 8 9,bt 11 .andNot 7 10,bu 12 .eql 11 0,mm 6 12] .ret))
def fn215:Fn Qc 215 13 dc215 [.t 6]:=Am func215
def dc114l0:DC:=(sr [bt 26 .lss 25 24] (.seq (cd 26 .skip (.exit 2)) (.seq (.block 3 (sr [ii 27 2 23 25,lk 28 2 27,al 8 [zs,zu],st 2 8 28] (.seq (.drawn [mm 29 1,ff 30 0 8,ll 31 30,mm 32 0,ff 33 0 8,ll 34 33,c2 35 95 32 34,c3 36 215 29 31 35,nt 37 36] [(6,2)]) (cd 37 (sr [cb 4 false] .ret) .skip)))) (.row [bi 38 .add 25 1,mm 25 38]))))
def dc114l1:DC:=(sr [bi 21 .lss 20 2] (.seq (cd 21 .skip (.exit 0)) (.seq (.block 1 (sr [oo 22 (.idxa 2 (.t 19) (.t 20)),mm 6 22] (sr [mm 23 6,nn 24 false 23,ci 25 0] (.block 2 (.loop dc114l0))))) (.row [bi 39 .add 20 1,mm 20 39]))))
def dc114:DC:=(sr [cb 4 false] (.seq (sr [mm 9 0,c1 10 214 9,bi 11 .neq 10 0,mm 12 11,gm 13 1 3 false,gc 14 214 [(.t 13)] 3 false,gi 15 .neq 14 0 3 false,po 16 12 15] (cd 16 (sr [cb 4 false] .ret) .skip)) (.seq (sr [mm 17 0,mm 18 1,oo 19 (.build [zn,zn] [(0,1,(.t 17)),(1,1,(.t 18))]),ci 20 0] (.block 0 (.loop dc114l1))) (sr [cb 4 true] .ret))))
def fn114:Fn Qc 114 40 dc114 [.t 4]:=Am func114
def dc118l0:DC:=(.seq (sr [mm 21 6,mm 22 5,nn 23 false 22,bt 24 .lss 21 23] (cd 24 .skip (.exit 0))) (.seq (.block 1 (sr [mm 27 5,mm 28 6,ii 29 2 27 28,ff 30 0 29,ll 31 30,mm 7 31] (sr [mm 32 1,mm 33 7,c2 34 220 32 33,mm 35 0,mm 36 7,c2 37 220 35 36,c2 38 219 34 37,nt 39 38] (cd 39 (sr [cb 4 false] .ret) .skip)))) (.row [mm 25 6,bi 26 .add 25 1,mm 6 26])))
def dc118:DC:=(sr [cb 4 false] (.seq (sr [mm 8 0,c1 9 218 8,bi 10 .neq 9 0,mm 11 10,gm 12 1 3 false,gc 13 218 [(.t 12)] 3 false,gi 14 .neq 13 0 3 false,po 15 11 14] (cd 15 (sr [cb 4 false] .ret) .skip)) (sr [oo 16 (.bslice 191 2 []),mm 17 0,ap 18 191 2 24 16 17,mm 19 1,ap 20 191 2 24 18 19,mm 5 20] (.seq (sr [ci 6 0] (.block 0 (.loop dc118l0))) (sr [cb 4 true] .ret)))))
def fn118:Fn Qc 118 40 dc118 [.t 4]:=Am func118
end Go.Vd
namespace Go.Vd
open Go.Proofs Go.RowKit
def Dw(op:Int):Int:=if op=9∨op=14∨op=18 then 1 else if op=10∨op=15 then 2 else if op=11∨op=12 then 4 else if op=13∨op=16 then 8 else if op=17 then 16 else if 3<=op∧op<=8 then 32 else 0
def writesF(op:Int):Bool:=decide (4<=op∧op<=18∧op≠9∧op≠14∧op≠17)
def F27:List D->Option D
 |[.int .u8 op]=>some (.int .u8 (Dw op))
 |_=>none
def ok27:(Ac F27).ok Qc 27:=by
 refine Ay (S:=λ_=>none) AL fn27 (λds r h=>?_) (λds r h=>?_)
 ·unfold F27 at h;split at h
  ·simp
  ·cases h
 ·unfold F27 at h;split at h
  ·rename_i op;simp only[Qb]at h;subst h;unfold dc27;simp only[↓go1,go2,simprocAttr]
   repeat' (first|(refine ifQ.intro (λh=>?_) (λh=>?_)<;>try (exfalso;omega))|(simp only[↓go1,gB3,simprocAttr,h]))
   all_goals (first|rfl|(rw[D.int.injEq];refine⟨rfl,?_⟩;unfold Dw;(repeat' split)<;>first|rfl|(exfalso;omega)))
  ·cases h
def F29:List D->Option D
 |[.int .u8 op]=>some (.bool (writesF op))
 |_=>none
def ok29:(Ac F29).ok Qc 29:=by
 refine Ay (S:=λ_=>none) AL fn29 (λds r h=>?_) (λds r h=>?_)
 ·unfold F29 at h;split at h
  ·simp
  ·cases h
 ·unfold F29 at h;split at h
  ·rename_i op;simp only[Qb]at h;subst h;unfold dc29;simp only[↓go1,go2,simprocAttr]
   repeat' (first|(refine ifQ.intro (λh=>?_) (λh=>?_)<;>try (exfalso;omega))|(simp only[↓go1,gB3,simprocAttr,h]))
   all_goals (rw[D.bool.injEq,Qm];simp[writesF];try omega)
  ·cases h
def Cj(c:Int):Bool:=decide (97<=c∧c<=122)||decide (48<=c∧c<=57)
def EZ(s:Bs):Nat->Nat->Bool
 |0,_=>true
 |f+1,p=>if p<s.length then Cj (at' s p)&&EZ s f (p+1)else true
def BD(s:Bs):Bool:=decide (1<=s.length)&&decide (s.length<=8)&&EZ s s.length 0
def dec_name(s:Bs)(p:Nat)(hp:p<s.length):Cj ((Utf8.decode ⟨s.toArray⟩ p).1:Nat)=Cj (at' s p)∧(Cj (at' s p)=true->(Utf8.decode ⟨s.toArray⟩ p).2=1):=by
 have b0:=at_lt s p;by_cases h:at' s p<128
 ·have:Utf8.decode ⟨s.toArray⟩ p=(at' s p,1):=by
   unfold Utf8.decode;simp only[get_at,Zf,h,if_true]
  rw[this];exact⟨rfl,λ_=>rfl⟩
 ·have h1:Cj (at' s p)=false:=by simp[Cj];omega
  have h2:128<=(Utf8.decode ⟨s.toArray⟩ p).1:=by
   unfold Utf8.decode;simp only[get_at,Zf,h,if_false]
   (repeat' split)<;>simp_all [Utf8.runeError]<;>omega
  refine⟨?_,λe=>by rw[h1]at e;cases e⟩;rw[h1];simp[Cj];omega
def loop202{S:Summs}{ns i:Id}{s:Bs}{Q:Ex->St->Prop}{e:Bool}(hret:∀st,e=false->st.s 2= .bool false->Q .ret st)(hexit:∀st,e=true->Q (.exit 0) st):
  ∀(f p:Nat) st g,s.length<=p+f->EZ s f p=e->st.s 13= .itp i->st.m i 1=some (.it s p)->A8 S ns dc202l0 Q st g:=by
 intro f;induction f with
 |zero=>
  intro p st g hf he h0 hm;refine Ae dc202l0.eq_1 ?_;have:¬(p<s.length):=by omega
  simp only[↓go1,go2,go4,simprocAttr,hm,h0,this];exact hexit _ he.symm
 |succ f ih=>
  intro p st g hf he h0 hm;refine Ae dc202l0.eq_1 ?_;unfold EZ at he;by_cases hlt:p<s.length
  ·rw[if_pos hlt]at he;obtain⟨d1,d2⟩:=dec_name s p hlt;cases ho:Cj (at' s p)with
   |true=>
    rw[ho,Zd]at he;have w:=d2 ho;rw[ho]at d1;have d3:(97<=((Utf8.decode ⟨s.toArray⟩ p).1:Int)∧((Utf8.decode ⟨s.toArray⟩ p).1:Int)<=122)∨(48<=((Utf8.decode ⟨s.toArray⟩ p).1:Int)∧((Utf8.decode ⟨s.toArray⟩ p).1:Int)<=57):=by simpa[Cj]using d1
    have hp:st.m.put i 1 [.it s (p+(Utf8.decode ⟨s.toArray⟩ p).2)] i 1=some (.it s (p+1)):=by rw[EY,if_pos ⟨rfl,rfl⟩,w]
    simp only[↓go1,go2,go4,simprocAttr,hm,h0,hlt]
    repeat' (first|(refine ifQ.intro (λh=>?_) (λh=>?_)<;>try (exfalso;omega))|(simp only[↓go1,go2,go4,simprocAttr,h]))
    all_goals (first|exact ih _ _ _ (by omega) he h0 hp|(exfalso;omega))
   |false=>
    rw[ho,Q2]at he;rw[ho]at d1;have d3:¬((97<=((Utf8.decode ⟨s.toArray⟩ p).1:Int)∧((Utf8.decode ⟨s.toArray⟩ p).1:Int)<=122)∨(48<=((Utf8.decode ⟨s.toArray⟩ p).1:Int)∧((Utf8.decode ⟨s.toArray⟩ p).1:Int)<=57)):=by
     intro hh;have:Cj ((Utf8.decode ⟨s.toArray⟩ p).1:Nat)=true:=by simpa[Cj]using hh
     rw[d1]at this;cases this
    simp only[↓go1,go2,go4,simprocAttr,hm,h0,hlt]
    repeat' (first|(refine ifQ.intro (λh=>?_) (λh=>?_)<;>try (exfalso;omega))|(simp only[↓go1,go2,go4,simprocAttr,h]))
    all_goals (first|exact hret _ he.symm rfl|(exfalso;omega))
  ·rw[if_neg hlt]at he;simp only[↓go1,go2,go4,simprocAttr,hm,h0,hlt];exact hexit _ he.symm
def F202:List D->Option D
 |[.str s]=>some (.bool (BD s))
 |_=>none
def ok202:(Ac F202).ok Qc 202:=by
 refine Ay (S:=λ_=>none) AL fn202 (λds r h=>?_) (λds r h=>?_)
 ·unfold F202 at h;split at h
  ·simp
  ·cases h
 ·unfold F202 at h;split at h
  ·rename_i s;simp only[Qb]at h;subst h;unfold dc202;unfold BD;have c1:((8:Int)<(s.length:Int))=(8<s.length):=by simp only[eq_iff_iff];omega
   by_cases h0:s=[]
   ·subst h0;simp only[↓go1,gB3,simprocAttr]
    try simp
   ·have h0':(s=[])=False:=eq_false h0;have hl:1<=s.length:=by cases s with|nil=>exact absurd rfl h0|cons _ _=>simp
    by_cases h8:8<s.length
    ·simp only[↓go1,gB3,simprocAttr,h0',c1,h8];simp;omega
    ·simp only[↓go1,go2,go4,simprocAttr,h0',c1,h8];have e1:(decide (1<=s.length)&&decide (s.length<=8)&&EZ s s.length 0)=EZ s s.length 0:=by simp;omega
     rw[e1];refine loop202 (e:=EZ s s.length 0) (λst h1 h2=>?_) (λst h1=>?_) s.length 0 _ _ (by omega) rfl rfl (by simp only[];rw[EY,if_pos ⟨rfl,rfl⟩])
     ·simp only[↓go1,gB3,h1,h2]
     ·simp only[↓go1,gB3,reduceIte,Qj,h1]
  ·cases h
def Af{m:Mem}{i i':Id}{o o':Nat}{ds:List D}:m.put i o ds i' o'=if i'=i∧o<=o'∧o'<o+ds.length then ds[o'-o]? else m i' o':=rfl
def Ap{m:Mem}{i:Id}{o:Nat}:Ah m i o 0=some []:=rfl
def Aq{m:Mem}{i:Id}{o n:Nat}:Ah m i o (n+1)=(m i o).bind λd=>(Ah m i (o+1) n).map (d::·):=by
 show(match m i o with|some d=>_|none=>none)=_;cases m i o<;>rfl
def Bf{s:Nat->D}{m:Mem}{k:Option Nat}{a:Nat}:Cn [.cell k a] s m=ldD m k (s a):=by
 simp only[Cn,Fx,RV.of];cases ldD m k (s a)<;>rfl
def AX{m:Mem}{n:Nat}{i:Id}{o:Nat}:ldD m (some n) (.ptr i o)=(Ah m i o n).map .agg:=rfl
def DT(k:Int)(name:Bs)(n:Int):Int:=
 if k=1 then(if n=0∧AW name=0 then 0 else 2)else if k=2 then(if 1<=n∧n<=30∧AW name=0 then 0 else 2)else if k=3 then(if n=0∧BD name=true then 0 else 2)
 else if k=4∨k=5 then(if n=0∧name=[]then 0 else 2)else 22
def F98:List D->Option D
 |[.agg [.int .u8 k,.str name,.int .i64 n]]=>if name.length<=1000000 then some (.int .i64 (DT k name n))else none
 |_=>none
def ok98:(Ac F98).ok Qc 98:=by
 obtain⟨S,hS,hl⟩:=A7 (Ab ok201 (Ab ok202 Ad));have s201:=hl 201 _ rfl;have s202:=hl 202 _ rfl;clear hl;refine Ay (S:=S) hS fn98 (λds r h=>?_) (λds r h=>?_)
 ·unfold F98 at h;split at h
  ·simp
  ·cases h
 ·unfold F98 at h;split at h
  ·rename_i k name n;split at h
   ·rename_i hc;simp only[Qb]at h;subst h;unfold dc98;have h201:F201 [.str name]=some (.int .i64 (AW name)):=if_pos hc;have h202:F202 [.str name]=some (.bool (BD name)):=rfl;unfold DT;generalize AW name=e at *;generalize BD name=b at *;simp only[↓go1,gB2,simprocAttr,Af,Qq,QF,Qn,QB,and_self]
    repeat' (first|(refine ifQ.intro (λh=>?_) (λh=>?_)<;>try (exfalso;omega))|(simp only[↓go1,gB0,simprocAttr,h,Af,Aa s201,Aa s202,h201,h202]))
    all_goals (first|rfl|(rw[D.int.injEq];refine⟨rfl,?_⟩;(repeat' split)<;>first|rfl|(exfalso;simp_all;done)|(exfalso;simp_all;omega)))
   ·cases h
  ·cases h
def F213:List D->Option D
 |[.str s]=>if s.length<=1000000 then some (.bool (BD s))else none
 |_=>none
def ok213:(Ac F213).ok Qc 213:=by
 obtain⟨S,hS,hl⟩:=A7 (Ab ok98 Ad);have s98:=hl 98 _ rfl;clear hl;refine Ay (S:=S) hS fn213 (λds r h=>?_) (λds r h=>?_)
 ·unfold F213 at h;split at h
  ·simp
  ·cases h
 ·unfold F213 at h;split at h
  ·rename_i s;split at h
   ·rename_i hc;simp only[Qb]at h;subst h;unfold dc213;have hF:F98 [.agg [.int .u8 3,.str s,.int .i64 0]]=some (.int .i64 (DT 3 s 0)):=if_pos hc;have e:DT 3 s 0=if BD s=true then 0 else 2:=by simp[DT]
    simp only[↓go1,gB2,go4,simprocAttr,C5,Za,QZ,Zc,Qt,Q5,List.nil_append,and_self,BK,Aa s98,hF,e,and_self];cases BD s<;>simp
   ·cases h
  ·cases h
def loop217{S:Summs}{ns:Id}{s:Bs}{Q:Ex->St->Prop}{e:Bool}(hb:s.length<=1000000)(hret:∀st,e=false->st.s 2= .bool false->Q .ret st)(hexit:∀st,e=true->Q (.exit 0) st):
  ∀(f p:Nat) st g,s.length<=p+f->p<=s.length->EZ s f p=e->st.s 0= .str s->st.s 3= .int .i64 (p:Int)->A8 S ns dc217l0 Q st g:=by
 intro f;induction f with
 |zero=>
  intro p st g hf hp he h0 h3;refine Ae dc217l0.eq_1 ?_;have:¬((p:Int)<s.length):=by omega
  simp only[↓go1,go2,go4,simprocAttr,h0,h3,this];exact hexit _ he.symm
 |succ f ih=>
  intro p st g hf hp he h0 h3;refine Ae dc217l0.eq_1 ?_;unfold EZ at he;by_cases hlt:p<s.length
  ·rw[if_pos hlt]at he;have hlt':((p:Int)<s.length):=by omega
   have hp0:(0:Int)<=(p:Int):=by omega
   obtain⟨c,hc,hc2⟩:=at_some hlt;have hw:IntKind.i64.wrap ((p:Int)+1)=((p+1:Nat):Int):=w64 (by omega) (by omega);rw[hc2]at he;cases ho:Cj (c.toNat:Nat)with
   |true=>
    rw[ho,Zd]at he;have d3:(97<=(c.toNat:Int)∧(c.toNat:Int)<=122)∨(48<=(c.toNat:Int)∧(c.toNat:Int)<=57):=by simpa[Cj]using ho
    simp only[↓go1,go2,go4,simprocAttr,h0,h3,hlt',hp0,Qe,hc]
    repeat' (first|(refine ifQ.intro (λh=>?_) (λh=>?_)<;>try (exfalso;omega))|(simp only[↓go1,go2,go4,simprocAttr,h,h0,h3,hp0,Qe,hc,hw]))
    all_goals (first|exact ih _ _ _ (by omega) (by omega) he h0 rfl|(exfalso;omega))
   |false=>
    rw[ho,Q2]at he;have d3:¬((97<=(c.toNat:Int)∧(c.toNat:Int)<=122)∨(48<=(c.toNat:Int)∧(c.toNat:Int)<=57)):=by
     intro hh;have:Cj (c.toNat:Nat)=true:=by simpa[Cj]using hh
     rw[ho]at this;cases this
    simp only[↓go1,go2,go4,simprocAttr,h0,h3,hlt',hp0,Qe,hc]
    repeat' (first|(refine ifQ.intro (λh=>?_) (λh=>?_)<;>try (exfalso;omega))|(simp only[↓go1,go2,go4,simprocAttr,h,h0,h3,hp0,Qe,hc]))
    all_goals (first|exact hret _ he.symm rfl|(exfalso;omega))
  ·rw[if_neg hlt]at he;have hlt':¬((p:Int)<s.length):=by omega
   simp only[↓go1,go2,go4,simprocAttr,h0,h3,hlt'];exact hexit _ he.symm
def F217:List D->Option D
 |[.str s]=>some (.bool (BD s))
 |_=>none
def ok217:(Ac F217).ok Qc 217:=by
 refine Ay (S:=λ_=>none) AL fn217 (λds r h=>?_) (λds r h=>?_)
 ·unfold F217 at h;split at h
  ·simp
  ·cases h
 ·unfold F217 at h;split at h
  ·rename_i s;simp only[Qb]at h;subst h;unfold dc217;unfold BD;have c1:((8:Int)<(s.length:Int))=(8<s.length):=by simp only[eq_iff_iff];omega
   have c2:((s.length:Int)<1)=(s.length<1):=by simp only[eq_iff_iff];omega
   by_cases h0:s.length<1
   ·simp only[↓go1,gB3,simprocAttr,c2,h0];simp;omega
   ·by_cases h8:8<s.length
    ·simp only[↓go1,gB3,simprocAttr,c1,c2,h0,h8];simp;omega
    ·simp only[↓go1,go2,go4,simprocAttr,c1,c2,h0,h8];have e1:(decide (1<=s.length)&&decide (s.length<=8)&&EZ s s.length 0)=EZ s s.length 0:=by
      have a1:decide (1<=s.length)=true:=decide_eq_true (by omega);have a2:decide (s.length<=8)=true:=decide_eq_true (by omega);rw[a1,a2];rfl
     rw[e1];refine loop217 (e:=EZ s s.length 0) (by omega) (λst h1 h2=>?_) (λst h1=>?_) s.length 0 _ _ (by omega) (by omega) rfl rfl rfl
     ·simp only[↓go1,gB3,h1,h2]
     ·simp only[↓go1,gB3,reduceIte,Qj,h1]
  ·cases h
def Fl(m:Mem):List D->Option D
 |[]=>some .junk
 |[.ptr i 0]=>m i 0
 |_=>none
def capR:List D->List Loc
 |[.ptr i 0]=>[(i,0)]
 |_=>[]
def capV_congr{m m':Mem}{caps:List D}(h:∀l∈capR caps,m l.1 l.2=m' l.1 l.2):Fl m caps=Fl m' caps:=by
 unfold Fl;split
 ·rfl
 ·exact h (_,0) (by simp[capR])
 ·rfl
def cloS(F:D->D->Option D):Summ where
 rd:=λds _=>capR ds.tail
 ex:=λds m _=>match ds with
  |x::caps=>(Fl m caps).bind λc=>(F c x).map λd=>(d,[])
  |[]=>none
def Ff:List (Option D)->Option (List Bool)
 |[]=>some []
 |some (.bool b)::r=>(Ff r).map (b::·)
 |_=>none
def Bb(l:List Bool):Int:=match l.findIdx? id with
 |some k=>k
 |none=>-1
def Gc(l:List Bool):decide (0<=Bb l)=l.any id:=by
 unfold Bb;cases h:l.findIdx? id with
 |none=>
  have:=Q4.1 h;have h2:l.any id=false:=by rw[List.any_eq_false];intro x hx;simpa using this x hx
  rw[h2];simp
 |some k=>
  rw[QN]at h;obtain⟨hk,h1,_⟩:=h;have:l.any id=true:=List.any_eq_true.2 ⟨l[k],QG hk,h1⟩;rw[this];simp
def elB:Option Nat->D->Bool
 |none,.agg _=>false
 |none,_=>true
 |some n,.agg cs=>cs.length==n
 |some _,_=>false
def fnR(ds:List D):List Loc:=match ds with
 |[_,.fn _ caps]=>capR caps
 |_=>[]
def EO(g:FuncId)(k:Option Nat)(F:D->D->Option D):Summ where
 rd:=λds _=>fnR ds
 ex:=λds m _=>match ds with
  |[.slice _ _ xs,.fn g' caps]=>if g'=g∧xs.length<=1000000∧xs.all (elB k)=true then(Fl m caps).bind λc=>(Ff (xs.map (F c))).map λbs=>(.int .i64 (Bb bs),[])else none
  |_=>none
def cnS(g:FuncId)(k:Option Nat)(F:D->D->Option D):Summ where
 rd:=λds _=>fnR ds
 ex:=λds m _=>match ds with
  |[.slice _ _ xs,.fn g' caps]=>if g'=g∧xs.length<=1000000∧xs.all (elB k)=true then(Fl m caps).bind λc=>(Ff (xs.map (F c))).map λbs=>(.bool (bs.any id),[])else none
  |_=>none
def dcIL(sz:Nat)(k:Option Nat):DC:=(.seq (.row [⟨some 9,.bin .lss (.t 8) (.t 7),[],none⟩]) (.seq (.cond (.t 9) .skip (.exit 0)) (.seq (.block 1 (.seq (.row [⟨some 10,.mv (.t 8),[],none⟩,⟨some 5,.mv (.t 10),[],none⟩]) (.seq (.row [⟨some 11,.mv (.t 1),[],none⟩,⟨some 12,.mv (.t 0),[],none⟩,⟨some 13,.mv (.t 5),[],none⟩,⟨some 14,.iaddr sz (.t 12) (.t 13),[],none⟩,⟨some 15,.load k (.t 14),[],none⟩,⟨some 16,.call (.t 11) [(.t 15)],[],none⟩]) (.cond (.t 16) (.seq (.row [⟨some 17,.mv (.t 5),[],none⟩,⟨some 4,.mv (.t 17),[],none⟩]) .ret) .skip)))) (.row [⟨some 18,.bin .add (.t 8) (.c (.int .i64 1)),[],none⟩,⟨some 8,.mv (.t 18),[],none⟩]))))
def dcI(sz:Nat)(k:Option Nat):DC:=(.seq (.row [⟨some 4,.mv (.c (.int .i64 0)),[],none⟩]) (.seq (.seq (.row [⟨some 6,.mv (.t 0),[],none⟩,⟨some 7,.len false (.t 6),[],none⟩,⟨some 8,.mv (.c (.int .i64 0)),[],none⟩]) (.block 0 (.loop (dcIL sz k)))) (.seq (.row [⟨some 4,.mv (.c (.int .i64 (-1))),[],none⟩]) .ret)))
def dcCn(f:FuncId):DC:=(.seq (.row [⟨some 4,.mv (.c (.bool false)),[],none⟩]) (.seq (.row [⟨some 5,.mv (.t 0),[],none⟩,⟨some 6,.mv (.t 1),[],none⟩,⟨some 7,.call (.c (.fn f [])) [(.t 5),(.t 6)],[],none⟩,⟨some 8,.bin .geq (.t 7) (.c (.int .i64 0)),[],none⟩,⟨some 4,.mv (.t 8),[],none⟩]) .ret))
def szOk(sz:Nat):Option Nat->Prop
 |none=>sz=1
 |some n=>sz=n
def elB_sz{sz:Nat}{k:Option Nat}(h:szOk sz k){x:D}(hx:elB k x=true):x.cells.length=sz:=by
 cases k with
 |none=>cases x<;>first|(cases hx;done)|exact h.symm
 |some n=>cases x<;>first|(cases hx;done)|(simp only[elB,beq_iff_eq]at hx;exact hx.trans h.symm)
def elB_load{m:Mem}{k:Option Nat}{x:D}{K:D->Upd->Prop}{t:Tag (m,K)}(hx:elB k x=true):loadK k (.eptr x.cells) m K t=K x []:=by
 cases k with
 |none=>cases x<;>first|(cases hx;done)|(simp only[loadK_eptr,D.cells,QW,A3])
 |some n=>
  cases x<;>first|(cases hx;done)|skip
  rename_i cs;simp only[elB,beq_iff_eq]at hx;subst hx;simp only[loadK_eptrs,D.cells,Qo,Need_true,List.take_length]
def boolsOf_some:∀{l:List (Option D)} {bs:List Bool},Ff l=some bs->l=bs.map λb=>some (.bool b)
 |[],bs,h=>by simp only[Ff,Qb]at h;subst h;rfl
 |x::r,bs,h=>by
  unfold Ff at h;split at h
  ·rename_i e;cases e
  ·rename_i b r' e;cases e;rw[Qf]at h;obtain⟨bs',h1,rfl⟩:=h;rw[boolsOf_some h1];rfl
  ·cases h
def loopI{S:Summs}{ns:Id}{sz:Nat}{k:Option Nat}{g:FuncId}{F:D->D->Option D}{xs caps:List D}{c:D}{bs:List Bool}{nl:Bool}{t:Id}{m:Mem}{Q:Ex->St->Prop}(hsz:szOk sz k)(hg:S g=some (cloS F))(hb:xs.length<=1000000)(hel:xs.all (elB k)=true)
  (hcap:Fl m caps=some c) (hbs:xs.map (F c)=bs.map λb=>some (.bool b))
  (hret:∀(j:Nat) st,st.m=m->bs.findIdx? id=some j->st.s 4= .int .i64 (j:Int)->Q .ret st) (hexit:∀st,st.m=m->bs.findIdx? id=none->Q (.exit 0) st):
  ∀(n j:Nat) st tg,n=xs.length-j->j<=xs.length->(∀i,i<j->bs[i]?=some false)->st.m=m->st.s 8= .int .i64 (j:Int)->st.s 7= .int .i64 (xs.length:Int)->st.s 0= .slice nl t xs->st.s 1= .fn g caps->A8 S ns (dcIL sz k) Q st tg:=by
 intro n;have hlen:bs.length=xs.length:=by simpa using (congrArg Zg hbs).symm
 induction n with
 |zero=>
  intro j st tg hn hj hall hm h8 h7 h0 h1;refine Ae (dcIL.eq_1 sz k) ?_;have:¬((j:Int)<xs.length):=by omega
  simp only[↓go1,go2,go4,reduceIte,Qj,h8,h7,this];refine hexit _ hm (Q4.2 λb hb'=>?_);obtain⟨i,hi,rfl⟩:=QX hb';have:=hall i (by omega);rw[Qd hi]at this;simpa using QD this
 |succ n ih=>
  intro j st tg hn hj hall hm h8 h7 h0 h1;refine Ae (dcIL.eq_1 sz k) ?_;have hjl:j<xs.length:=by omega
  have hlt:((j:Int)<xs.length):=by omega
  have hj0:=nJ (j:=j);have hx:xs[j]?=some xs[j]:=Qd hjl;have he:elB k xs[j]=true:=Qr.1 hel _ (QG hjl);have hcs:=elB_sz hsz he;have hw:=wJ (j:=j) (by omega);obtain⟨st_s,st_m,st_c⟩:=st;simp only at hm h8 h7 h0 h1;subst hm;have hF:F c xs[j]=some (.bool (bs[j]'(by omega))):=by
   have e:=congrArg (·[j]?) hbs;simp only[QO,hx,Qy,Qd (show j<bs.length by omega)]at e;exact QD e
  have hex:∀fr,(cloS F).ex (xs[j]::caps) st_m fr=some (.bool (bs[j]'(by omega)),[]):=by
   intro fr;simp only[cloS,hcap,Qw,hF,Qy]
  simp only[↓go1,go2,go4,simprocAttr,h8,h7,h0,h1,hlt,hj0,Qe,hx,hcs,elB_load he,Ag hg,hex];cases hbj:bs[j]'(by omega)with
  |true=>
   simp only[↓go1,go2,simprocAttr];refine hret j _ rfl ?_ rfl;rw[QN];refine⟨by omega,by simp[hbj],λi hi=>?_⟩;have:=hall i hi;rw[Qd (by omega)]at this;simp[QD this]
  |false=>
   simp only[↓go1,go2,simprocAttr,h8,hw];refine ih (j+1) _ _ (by omega) (by omega) (λi hi=>?_) rfl rfl h7 h0 h1;rcases Nat.lt_or_eq_of_le (Nat.le_of_lt_succ hi)with hi|rfl
   ·exact hall i hi
   ·rw[Qd (by omega),hbj]
def fnR_congr{ds:List D}{m m':Mem}(h:∀l∈fnR ds,m l.1 l.2=m' l.1 l.2){x:D}{g:FuncId}{caps:List D}(e:ds=[x,.fn g caps]):Fl m caps=Fl m' caps:=by
 subst e;exact capV_congr h
def idx_ok{P:Program}{f g:FuncId}{sz:Nat}{k:Option Nat}{F:D->D->Option D}{N:Nat}(hN:2<=N)(hf:Fn P f N (dcI sz k) [.t 4])(hsz:szOk sz k)(hg:(cloS F).ok P g):(EO g k F).ok P f:=by
 have hS:Summs.ok P (AC [(g,cloS F)]):=Ab hg Ad;have sg:AC [(g,cloS F)] g=some (cloS F):=by simp[AC]
 generalize AC [(g,cloS F)]=S at hS sg;refine opn_ok hS hf (λds m m' fr h=>?_) (λds m fr r u hex _=>?_)
 ·simp only[EO]at h ⊢;split
  ·rename_i nl t xs g' caps;rw[fnR_congr h rfl]
  ·rfl
 ·simp only[EO]at hex;split at hex
  ·rename_i nl t xs g' caps;split at hex
   ·rename_i hc;obtain⟨rfl,hb,hel⟩:=hc;rw[QM]at hex;obtain⟨c,hcap,hex⟩:=hex;rw[Qf]at hex;obtain⟨bs,hbs,hex⟩:=hex;simp only[Qh]at hex;obtain⟨rfl,rfl⟩:=hex;refine⟨hN,?_⟩;unfold dcI;simp only[↓go1,go2,simprocAttr];refine loopI (xs:=xs) (caps:=caps) (c:=c) (bs:=bs) (nl:=nl) (t:=t) (m:=m) hsz sg hb hel hcap (boolsOf_some hbs) (λj st hm h1 h2=>?_) (λst hm h1=>?_) xs.length 0 _ _ (by omega) (by omega) (by simp) rfl rfl rfl rfl rfl
    ·simp only[↓go1,go2,go4,h2,Bb,h1,hm];exact λi o x h=>h
    ·simp only[↓go1,go2,go4,reduceIte,Qj,Bb,h1,hm];exact λi o x h=>h
   ·cases hex
  ·cases hex
def cn_ok{P:Program}{f h g:FuncId}{k:Option Nat}{F:D->D->Option D}{N:Nat}(hN:2<=N)(hf:Fn P f N (dcCn h) [.t 4])(hi:(EO g k F).ok P h):(cnS g k F).ok P f:=by
 have hS:Summs.ok P (AC [(h,EO g k F)]):=Ab hi Ad;have sh:AC [(h,EO g k F)] h=some (EO g k F):=by simp[AC]
 generalize AC [(h,EO g k F)]=S at hS sh;refine opn_ok hS hf (λds m m' fr h=>?_) (λds m fr r u hex _=>?_)
 ·simp only[cnS]at h ⊢;split
  ·rename_i nl t xs g' caps;rw[fnR_congr h rfl]
  ·rfl
 ·simp only[cnS]at hex;split at hex
  ·rename_i nl t xs g' caps;split at hex
   ·rename_i hc;rw[QM]at hex;obtain⟨c,hcap,hex⟩:=hex;rw[Qf]at hex;obtain⟨bs,hbs,hex⟩:=hex;simp only[Qh]at hex;obtain⟨rfl,rfl⟩:=hex;refine⟨hN,?_⟩;have he:∀fr,(EO g k F).ex [.slice nl t xs,.fn g' caps] m fr=some (.int .i64 (Bb bs),[]):=by
     intro fr;simp only[EO,if_pos hc,hcap,Qw,hbs,Qy]
    unfold dcCn;simp only[↓go1,go2,go4,simprocAttr,Ag sh,he];exact⟨by rw[←Gc],λi o x h=>h⟩
   ·cases hex
  ·cases hex
end Go.Vd
namespace Go.Vd
open Go.Proofs
def dc204:DC:=(sr [ob 2 0,cb 3 false] (sr [ff 4 0 2,ll 5 4,ll 6 1,bt 7 .eql 5 6,mm 3 7] .ret))
def fn204:Fn Qc 204 8 dc204 [.t 3]:=Am func204
def dc205:DC:=(sr [cb 3 false] (sr [ll 4 1,mm 5 0,c2 6 206 4 5,mm 7 6,gm 8 0 3 false,gl 9 1 3 false,gc 10 206 [(.t 8),(.t 9)] 3 false,po 11 7 10,mm 3 11] .ret))
def fn205:Fn Qc 205 12 dc205 [.t 3]:=Am func205
def dc103:DC:=(sr [ob 2 0,ob 3 1,ci 4 0] (sr [ff 5 0 2,ll 6 5,oo 7 (.mkfn 204 [(.t 3)]),c2 8 203 6 7,mm 4 8] .ret))
def fn103:Fn Qc 103 9 dc103 [.t 4]:=Am func103
def dc104:DC:=(sr [ob 2 0,cb 4 false] (sr [mm 5 1,oo 6 (.mkfn 205 [(.t 2)]),c2 7 192 5 6,mm 4 7] .ret))
def fn104:Fn Qc 104 8 dc104 [.t 4]:=Am func104
end Go.Vd
namespace Go.Vd
open Go.Proofs Go.RowKit
def clo_ok{S:Summs}{P:Program}{f:FuncId}{N:Nat}{dc:DC}{rs:List RV}{F:D->D->Option D}(hS:Summs.ok P S)(hf:Fn P f N dc rs)
  (hwp:∀x caps m fr c d,Fl m caps=some c->F c x=some d->(∀k i o,(k::fr)<:+i->m i o=none)->caps.length<=1->(caps.length+1<=N)∧dc.wp S fr (DO rs λd' m'=>d'=d∧∀i o y,m i o=some y->m' i o=some y) ⟨Bx (x::caps),m,0⟩):(cloS F).ok P f:=by
 refine opn_ok hS hf (λds m m' fr h=>?_) (λds m fr r u hex hfr=>?_)
 ·simp only[cloS]at h ⊢;split
  ·rename_i x caps;rw[capV_congr (m:=m) (m':=m') (caps:=caps) h]
  ·rfl
 ·simp only[cloS]at hex;split at hex
  ·rename_i x caps;rw[QM]at hex;obtain⟨c,hcap,hex⟩:=hex;rw[Qf]at hex;obtain⟨d,hd,hex⟩:=hex;simp only[Qh]at hex;obtain⟨rfl,rfl⟩:=hex;have hl:caps.length<=1:=by
    unfold Fl at hcap;split at hcap
    ·simp
    ·simp
    ·cases hcap
   obtain⟨h1,h2⟩:=hwp x caps m fr c d hcap hd hfr hl;exact⟨h1,h2⟩
  ·cases hex
def capV_str{m:Mem}{caps:List D}{p:Bs}(h:Fl m caps=some (.str p)):∃i,caps=[.ptr i 0]∧m i 0=some (.str p):=by
 unfold Fl at h;split at h
 ·cases h
 ·exact⟨_,rfl,h⟩
 ·cases h
def K369:D->D->Option D
 | .str p,.agg [.str q,.int .u8 _]=>some (.bool (decide (q=p)))
 |_,_=>none
def K204:D->D->Option D
 | .str p,.agg [.str q,.int .i64 _,.bool _]=>some (.bool (decide (q=p)))
 |_,_=>none
def K205:D->D->Option D
 | .str p,.str q=>some (.bool (A4 p q||A4 q p))
 |_,_=>none
def clo369:(cloS K369).ok Qc 369:=by
 refine clo_ok (S:=λ_=>none) AL fn369 (λx caps m fr c d hcap hF hfr hl=>⟨by omega,?_⟩);unfold K369 at hF;split at hF
 ·rename_i p q k;simp only[Qb]at hF;subst hF;obtain⟨i,rfl,hm⟩:=capV_str hcap;have hi:i≠0::fr:=by rintro rfl;have:=hfr 0 (0::fr) 0 (QT _);rw[hm]at this;cases this
  unfold dc369;simp only[↓go1,gB2,go4,simprocAttr,hm,hi,Af,Qq,QF,Qn,and_self];intro i o y h;split
  ·rename_i e;rw[e.1,hfr 0 _ o (QT _)]at h;cases h
  ·exact h
 ·cases hF
def clo204:(cloS K204).ok Qc 204:=by
 refine clo_ok (S:=λ_=>none) AL fn204 (λx caps m fr c d hcap hF hfr hl=>⟨by omega,?_⟩);unfold K204 at hF;split at hF
 ·rename_i p q k b;simp only[Qb]at hF;subst hF;obtain⟨i,rfl,hm⟩:=capV_str hcap;have hi:i≠0::fr:=by rintro rfl;have:=hfr 0 (0::fr) 0 (QT _);rw[hm]at this;cases this
  unfold dc204;simp only[↓go1,gB2,go4,simprocAttr,hm,hi,Af,Qq,QF,Qn,and_self];intro i o y h;split
  ·rename_i e;rw[e.1,hfr 0 _ o (QT _)]at h;cases h
  ·exact h
 ·cases hF
def clo205:(cloS K205).ok Qc 205:=by
 obtain⟨S,hS,hl⟩:=A7 (Ab ok206 Ad);have s206:=hl 206 _ rfl;clear hl;refine clo_ok (S:=S) hS fn205 (λx caps m fr c d hcap hF hfr hl=>⟨by omega,?_⟩);unfold K205 at hF;split at hF
 ·rename_i p q;simp only[Qb]at hF;subst hF;obtain⟨i,rfl,hm⟩:=capV_str hcap;have h206:∀p q,F206 [.str p,.str q]=some (.bool (A4 p q)):=λ_ _=>rfl
  unfold dc205;cases h1:A4 p q with
  |false=>simp only[↓go1,gB3,simprocAttr,hm,Aa s206,h206,h1];simp
  |true=>simp only[↓go1,gB3,simprocAttr,hm,Aa s206,h206,h1];simp
 ·cases hF
def fn203:Fn Qc 203 19 (dcI 3 (some 3)) [.t 4]:=⟨f203,_,func203,rfl,by kernel_rfl,rfl,by kernel_rfl,by kernel_rfl⟩
def fn297:Fn Qc 297 19 (dcI 1 none) [.t 4]:=⟨f297,_,func297,rfl,by kernel_rfl,rfl,by kernel_rfl,by kernel_rfl⟩
def fn388:Fn Qc 388 19 (dcI 1 none) [.t 4]:=⟨f388,_,func388,rfl,by kernel_rfl,rfl,by kernel_rfl,by kernel_rfl⟩
def fn192:Fn Qc 192 9 (dcCn 297) [.t 4]:=⟨f192,_,func192,rfl,by kernel_rfl,rfl,by kernel_rfl,by kernel_rfl⟩
def fn343:Fn Qc 343 9 (dcCn 388) [.t 4]:=⟨f343,_,func343,rfl,by kernel_rfl,rfl,by kernel_rfl,by kernel_rfl⟩
def idx399:(EO 369 (some 2) K369).ok Qc 399:=idx_ok (by omega) fn399 rfl clo369
def cn368:(cnS 369 (some 2) K369).ok Qc 368:=cn_ok (by omega) fn368 idx399
def idx203:(EO 204 (some 3) K204).ok Qc 203:=idx_ok (by omega) fn203 rfl clo204
def idx297:(EO 205 none K205).ok Qc 297:=idx_ok (by omega) fn297 rfl clo205
def cn192:(cnS 205 none K205).ok Qc 192:=cn_ok (by omega) fn192 idx297
abbrev Rl:=Bs×Int
def rlD(r:Rl):D:= .agg [.str r.1,.int .u8 r.2]
def An(l:List Rl):List D:=l.map rlD
def rlT:D->Rl
 | .agg [.str q,.int .u8 k]=>(q,k)
 |_=>([],0)
def A9(xs:List D):List Rl:=xs.map rlT
def AN(l:List Rl):A9 (An l)=l:=by
 simp only[A9,An,Q0]
 conv=>rhs;rw[←List.map_id l]
 exact QY λr _=>rfl
def Bl(l:List Rl)(j:Nat):Rl:=l.getD j ([],0)
def Av(l:List Rl):(An l).length=l.length:=Ql ..
def Dm{l:List Rl}{j:Nat}(h:j<l.length):(An l)[j]?=some (rlD (Bl l j)):=by
 simp[An,Bl,Qd h]
def rlsD_take(l:List Rl)(j:Nat):(An l).take j=An (l.take j):=(List.map_take ..).symm
def rlsD_elB(l:List Rl):(An l).all (elB (some 2))=true:=by
 rw[Qr];intro x hx;obtain⟨r,_,rfl⟩:=List.mem_map.1 hx;rfl
def rlsD_head(l:List Rl):D.headSz (An l) 2=2:=by cases l<;>rfl
def Ft(l:List Rl)(q:Bs):Bool:=l.any λr=>decide (r.1=q)
def Fy(r:Rl)(l:List Rl):Int:=if r.1≠[]∧AW r.1≠0 then AW r.1 else if 63<r.2 then 2 else if Ft l r.1=true then 20 else 0
def Dl(l:List Rl):Nat->Nat->Int
 |0,_=>0
 |f+1,j=>if j<l.length then(if Fy (Bl l j) (l.take j)≠0 then Fy (Bl l j) (l.take j)else Dl l f (j+1))else 0
def Cr(l:List Rl):Int:=if 4<l.length then 24 else Dl l l.length 0
def By(l:List Rl):Prop:=∀r∈l,r.1.length<=1000000
def prefB_at{l:List Rl}(h:By l){j:Nat}(hj:j<l.length):(Bl l j).1.length<=1000000:=by
 have:Bl l j=l[j]:=by simp[Bl,Qd hj]
 rw[this];exact h _ (QG hj)
def Dc(bs:List Bool):Ff (bs.map λb=>some (.bool b))=some bs:=by
 induction bs with
 |nil=>rfl
 |cons b r ih=>simp only[QJ,Ff,ih,Qy]
def cn368_ex{l:List Rl}{nl:Bool}{t:Id}(hl:l.length<=1000000){q:Bs}(m:Mem)(fr i:Id)(hm:m i 0=some (.str q)):
  (cnS 369 (some 2) K369).ex [.slice nl t (An l),.fn 369 [.ptr i 0]] m fr=some (.bool (Ft l q),[]):=by
 have e:(An l).map (K369 (.str q))=(l.map λr=>decide (r.1=q)).map λb=>some (.bool b):=by
  simp only[An,Q0];exact QY λr _=>rfl
 simp only[cnS,Av,hl,rlsD_elB,and_self,if_true,Fl,hm,Qw,e,Dc,Qy];simp only[Ft,List.any_map];rfl
open Classical in
def F314:List D->Option D
 |[.agg [.str q,.int .u8 k],.slice _ _ xs]=>if xs=An (A9 xs)∧xs.length<=1000000∧q.length<=1000000 then some (.int .i64 (Fy (q,k) (A9 xs)))else none
 |_=>none
def ok314:(Ac F314).ok Qc 314:=by
 obtain⟨S,hS,hl⟩:=A7 (Ab ok201 (Ab cn368 Ad));have s201:=hl 201 _ rfl;have s368:=hl 368 _ rfl;clear hl;refine Ay (S:=S) hS fn314 (λds r h=>?_) (λds r h=>?_)
 ·unfold F314 at h;split at h
  ·simp
  ·cases h
 ·unfold F314 at h;split at h
  ·rename_i q k nl t xs;split at h
   ·rename_i hc;obtain⟨hx,hlen,hq⟩:=hc;simp only[Qb]at h;subst h;generalize A9 xs=l at hx;subst hx;rw[Av]at hlen;have h201:F201 [.str q]=some (.int .i64 (AW q)):=if_pos hq;unfold dc314 Fy;generalize AW q=e at *;simp only[↓go1,gB2,simprocAttr,Af,Qq,QF,Qn,and_self]
    repeat' (first|(refine ifQ.intro (λh=>?_) (λh=>?_)<;>try (exfalso;omega))|(simp only[↓go1,gB0,simprocAttr,h,Af,Aa s201,h201,Ag s368,cn368_ex (q:=q) hlen]))
    all_goals (first|rfl|(rw[D.int.injEq];refine⟨rfl,?_⟩;(repeat' split)<;>first|rfl|(exfalso;simp_all;done)|(exfalso;simp_all;omega)))
   ·cases h
  ·cases h
open Classical in
def F314_eq{q:Bs}{k:Int}{nl:Bool}{t:Id}{l:List Rl}(hl:l.length<=1000000)(hq:q.length<=1000000):F314 [.agg [.str q,.int .u8 k],.slice nl t (An l)]=some (.int .i64 (Fy (q,k) l)):=by
 have h:An l=An (A9 (An l))∧(An l).length<=1000000∧q.length<=1000000:=⟨by rw[AN],by rw[Av];exact hl,hq⟩;show(if _ then _ else _)=_;rw[if_pos h,AN]
def loop214{S:Summs}{ns:Id}{l:List Rl}{nl:Bool}{t:Id}{Q:Ex->St->Prop}{e:Int}(s314:S 314=some (Ac F314))(hb:l.length<=4)(hp:By l)
  (hret:∀st,e≠0->st.s 2= .int .i64 e->Q .ret st) (hexit:∀st,e=0->Q (.exit 0) st):
  ∀(f j:Nat) st g,l.length=j+f->Dl l f j=e->st.s 0= .slice nl t (An l)->st.s 9= .slice nl t (An l)->st.s 10= .int .i64 (l.length:Int)->st.s 11= .int .i64 (j:Int)->A8 S ns dc214l0 Q st g:=by
 intro f;induction f with
 |zero=>
  intro j st g hf he h0 h9 h10 h11;refine Ae dc214l0.eq_1 ?_;have:¬((j:Int)<l.length):=by omega
  simp only[↓go1,go2,go4,reduceIte,Qj,h10,h11,this];exact hexit _ he.symm
 |succ f ih=>
  intro j st g hf he h0 h9 h10 h11;refine Ae dc214l0.eq_1 ?_;unfold Dl at he;have hj:j<l.length:=by omega
  rw[if_pos hj]at he;have hlt:((j:Int)<l.length):=by omega
  have hj0:=nJ (j:=j);have hjl:((j:Int)<=l.length):=by omega
  have hw:=wJ (j:=j) (by omega);have hat:=Dm hj;have hq:=prefB_at hp hj;generalize hr:Bl l j=r at he hat hq;obtain⟨q,k⟩:=r;have hat':(An l)[j]?=some (.agg [.str q,.int .u8 k]):=hat;have hF:=F314_eq (nl:=nl) (t:=[]) (l:=l.take j) (q:=q) (k:=k) (by simp;omega) hq;generalize Fy (q,k) (l.take j)=e' at he hF;obtain⟨st_s,st_m,st_c⟩:=st;simp only at h0 h9 h10 h11;simp only[↓go1,gB0,simprocAttr,h0,h9,h10,h11,hlt,hj0,hjl,Qe,hat',Av,rlsD_head,rlsD_take,Aa s314,hF,Af,Ap,Aq,Qw,QZ,Za,Ze,Qt];refine Ao.intro (Aj rfl) ?_;simp only[↓go1,go2,go3,simprocAttr,rlsD_take,Qt];refine ifQ.intro (λh=>?_) (λh=>?_)
  ·rw[if_neg (by simpa using h)]at he;simp only[↓go1,go2,go3,simprocAttr,h11,rlsD_take,Qt,hw];exact ih (j+1) _ _ (by omega) he h0 h9 h10 rfl
  ·rw[if_pos h]at he;simp only[↓go1,go2,go3,simprocAttr,rlsD_take,Qt];exact hret _ (he▸h) (by rw[←he];rfl)
open Classical in
def Fpol:List D->Option D
 |[.slice _ _ xs]=>if xs=An (A9 xs)∧xs.length<=1000000∧By (A9 xs)then some (.int .i64 (Cr (A9 xs)))else none
 |_=>none
open Classical in
def Fpol_eq{nl:Bool}{t:Id}{l:List Rl}(hl:l.length<=1000000)(hp:By l):Fpol [.slice nl t (An l)]=some (.int .i64 (Cr l)):=by
 have h:An l=An (A9 (An l))∧(An l).length<=1000000∧By (A9 (An l)):=by rw[AN,Av];exact⟨rfl,hl,hp⟩
 show(if _ then _ else _)=_;rw[if_pos h,AN]
open Classical in
def Fpol_inv{ds:List D}{r:D}(h:Fpol ds=some r):∃nl t l,ds=[.slice nl t (An l)]∧l.length<=1000000∧By l∧r= .int .i64 (Cr l):=by
 unfold Fpol at h;split at h
 ·rename_i nl t xs;split at h
  ·rename_i hc;obtain⟨h1,h2,h3⟩:=hc;simp only[Qb]at h;subst h;refine⟨nl,t,A9 xs,by rw[←h1],?_,h3,rfl⟩;rw[h1,Av]at h2;exact h2
  ·cases h
 ·cases h
def ok214:(Ac Fpol).ok Qc 214:=by
 obtain⟨S,hS,hl⟩:=A7 (Ab ok314 Ad);have s314:=hl 314 _ rfl;clear hl;refine Ay (S:=S) hS fn214 (λds r h=>?_) (λds r h=>?_)
 ·obtain⟨nl,t,l,rfl,_⟩:=Fpol_inv h;simp
 ·obtain⟨nl,t,l,rfl,hl,hp,rfl⟩:=Fpol_inv h;unfold dc214 Cr;by_cases h4:4<l.length
  ·have h4':((4:Int)<l.length):=by omega
   simp only[↓go1,gB3,simprocAttr,Av,h4',h4]
  ·have h4':¬((4:Int)<l.length):=by omega
   simp only[↓go1,go2,go4,simprocAttr,Av,h4'];refine loop214 (l:=l) (nl:=nl) (t:=t) (e:=Dl l l.length 0) s314 (by omega) hp (λst h1 h2=>?_) (λst h1=>?_) l.length 0 _ _ (by omega) rfl rfl rfl rfl rfl
   ·simp only[↓go1,gB3,h2];rw[if_neg h4]
   ·simp only[↓go1,gB3,reduceIte,Qj,h1];rw[if_neg h4]
def usedP_take_succ(l:List Rl)(q:Bs){i:Nat}(hi:i<l.length):Ft (l.take (i+1)) q=(Ft (l.take i) q||decide ((Bl l i).1=q)):=by
 have e:Bl l i=l[i]:=by simp[Bl,Qd hi]
 unfold Ft;rw[List.take_succ_eq_append_getElem hi,List.any_append,e];simp
def usedP_take_le(l:List Rl)(q:Bs){i j:Nat}(h:i<=j)(hu:Ft (l.take i) q=true):Ft (l.take j) q=true:=by
 unfold Ft at *;rw[List.any_eq_true]at *;obtain⟨x,hx,h2⟩:=hu;exact⟨x,(List.take_subset_take_left l h) hx,h2⟩
def loop218i{S:Summs}{ns:Id}{l:List Rl}{nl:Bool}{t:Id}{Q:Ex->St->Prop}{i:Nat}{q:Bs}(hb:l.length<=4)(hi:i<l.length)(hq:(Bl l i).1=q)
  (hret:∀st,Ft (l.take i) q=true->st.s 2= .int .i64 20->Q .ret st) (hexit:∀st,Ft (l.take i) q=false->st.s 0= .slice nl t (An l)->st.s 3= .int .i64 (i:Int)->Q (.exit 2) st):
  ∀(f j:Nat) st g,i=j+f->Ft (l.take j) q=false->st.s 0= .slice nl t (An l)->st.s 3= .int .i64 (i:Int)->st.s 4= .int .i64 (j:Int)->A8 S ns dc218l0 Q st g:=by
 intro f;induction f with
 |zero=>
  intro j st g hf he h0 h3 h4;refine Ae dc218l0.eq_1 ?_;have:¬((j:Int)<i):=by omega
  simp only[↓go1,go2,go4,simprocAttr,h3,h4,this];exact hexit _ (by rw[show i=j by omega];exact he) h0 h3
 |succ f ih=>
  intro j st g hf he h0 h3 h4;refine Ae dc218l0.eq_1 ?_;have hlt:((j:Int)<i):=by omega
  have hj0:=nJ (j:=j);have hi0:(0:Int)<=(i:Int):=by omega
  have hw:=wJ (j:=j) (by omega);have hat:(An l)[j]?=some (.agg [.str (Bl l j).1,.int .u8 (Bl l j).2]):=Dm (by omega);have hati:(An l)[i]?=some (.agg [.str q,.int .u8 (Bl l i).2]):=by rw[←hq];exact Dm hi
  have hu:=usedP_take_succ l q (show j<l.length by omega);rw[he,Bool.false_or]at hu;generalize Bl l j=r at hat hu;obtain⟨st_s,st_m,st_c⟩:=st;simp only at h0 h3 h4;simp only[↓go1,gB2,go4,simprocAttr,h0,h3,h4,hlt,hj0,hi0,Qe,hat,hati,Qq,Qt,QW];refine Ao.intro (Aj rfl) ?_;simp only[↓go1,go2,go3,reduceIte,Qk];refine ifQ.intro (λh=>?_) (λh=>?_)
  ·simp only[↓go1,go2,go3,Qj];exact hret _ (usedP_take_le l q (show j+1<=i by omega) (by rw[hu];simpa using h)) rfl
  ·simp only[↓go1,go2,go3,simprocAttr,h4,hw];exact ih (j+1) _ _ (by omega) (by rw[hu];simpa using h) h0 h3 rfl
def loop218{S:Summs}{ns:Id}{l:List Rl}{nl:Bool}{t:Id}{Q:Ex->St->Prop}{e:Int}(s211:S 211=some (Ac F211))(hb:l.length<=4)(hp:By l)
  (hret:∀st,e≠0->st.s 2= .int .i64 e->Q .ret st) (hexit:∀st,e=0->Q (.exit 0) st):
  ∀(f i:Nat) st g,l.length=i+f->Dl l f i=e->st.s 0= .slice nl t (An l)->st.s 3= .int .i64 (i:Int)->A8 S ns dc218l1 Q st g:=by
 intro f;induction f with
 |zero=>
  intro i st g hf he h0 h3;refine Ae dc218l1.eq_1 ?_;have:¬((i:Int)<l.length):=by omega
  simp only[↓go1,go2,go4,simprocAttr,h0,h3,this,Av];exact hexit _ he.symm
 |succ f ih=>
  intro i st g hf he h0 h3;refine Ae dc218l1.eq_1 ?_;unfold Dl at he;have hi:i<l.length:=by omega
  rw[if_pos hi]at he;have hlt:((i:Int)<l.length):=by omega
  have hi0:(0:Int)<=(i:Int):=by omega
  have hw:IntKind.i64.wrap ((i:Int)+1)=((i+1:Nat):Int):=w64 (by omega) (by omega);have hat:=Dm hi;have hq:=prefB_at hp hi;generalize hr:Bl l i=r at he hat hq;obtain⟨q,k⟩:=r;replace hat:(An l)[i]?=some (.agg [.str q,.int .u8 k]):=hat;have hF:F211 [.str q]=some (.int .i64 (AW q)):=if_pos hq;unfold Fy at he;generalize AW q=er at he hF;obtain⟨st_s,st_m,st_c⟩:=st;simp only at h0 h3;have hret':∀st (v:Int),st.s 2= .int .i64 v->v=e->v≠0->Q .ret st:=λst v h1 h2 h3=>hret st (h2▸h3) (h2▸h1)
  simp only at he;simp only[↓go1,gB2,go4,simprocAttr,h0,h3,hlt,hi0,Qe,hat,Av,Qq,Qt,QW]
  repeat' (first|(refine ifQ.intro (λh=>?_) (λh=>?_)<;>try (exfalso;omega))|(simp only[↓go1,gB2,go4,simprocAttr,h,h0,h3,hi0,Qe,hat,Aa s211,hF,Qq,Qt,Zc,QW]))
  all_goals (try (refine hret' _ _ rfl ?_ ?_<;>first|omega|(simp_all;done)))
  all_goals (refine loop218i (l:=l) (nl:=nl) (t:=t) (i:=i) (q:=q) hb hi (by rw[hr]) (λst h1 h2=>?_) (λst h1 h2 h3=>?_) i 0 _ _ (by omega) (by simp[Ft]) h0 h3 rfl)
  all_goals (first|(simp only[↓go1,go2,simprocAttr];refine hret' _ _ h2 (by simp_all) (by decide))|(simp only[↓go1,go2,simprocAttr,h3,hw];exact ih (i+1) _ _ (by omega) (by simp_all) h2 rfl))
def ok218:(Ac Fpol).ok Qc 218:=by
 obtain⟨S,hS,hl⟩:=A7 (Ab ok211 Ad);have s211:=hl 211 _ rfl;clear hl;refine Ay (S:=S) hS fn218 (λds r h=>?_) (λds r h=>?_)
 ·obtain⟨nl,t,l,rfl,_⟩:=Fpol_inv h;simp
 ·obtain⟨nl,t,l,rfl,hl,hp,rfl⟩:=Fpol_inv h;unfold dc218 Cr;by_cases h4:4<l.length
  ·have h4':((4:Int)<l.length):=by omega
   simp only[↓go1,gB3,simprocAttr,Av,h4',h4]
  ·have h4':¬((4:Int)<l.length):=by omega
   simp only[↓go1,go2,go4,simprocAttr,Av,h4'];refine loop218 (l:=l) (nl:=nl) (t:=t) (e:=Dl l l.length 0) s211 (by omega) hp (λst h1 h2=>?_) (λst h1=>?_) l.length 0 _ _ (by omega) rfl rfl rfl
   ·simp only[↓go1,gB3,h2];rw[if_neg h4]
   ·simp only[↓go1,gB3,reduceIte,Qj,h1];rw[if_neg h4]
def v_andNot{k:IntKind}{a b:Int}:AY .andNot (.int k a) (.int k b)=some (.int k (bits .andNot k a b)):=by simp[AY]
def hasR:Nat->Nat->Nat->Bool
 |0,_,_=>true
 |f+1,a,c=>if c % 2=1∧a % 2=0 then false else hasR f (a / 2) (c / 2)
def hasR_bits:∀(f a c:Nat),hasR f a c=true↔∀i,i<f->c.testBit i=true->a.testBit i=true
 |0,a,c=>by simp[hasR]
 |f+1,a,c=>by
  have ih:=hasR_bits f (a / 2) (c / 2);have h0:∀n:Nat,n.testBit 0=decide (n % 2=1):=λn=>Nat.testBit_zero n
  unfold hasR;by_cases h:c % 2=1∧a % 2=0
  ·rw[if_pos h];constructor
   ·intro h;cases h
   ·intro h1;have h2:=h1 0 (by omega) (by rw[h0];simp[h.1]);rw[h0,decide_eq_true_iff]at h2;omega
  ·rw[if_neg h,ih];constructor
   ·intro h1 i hi h2;cases i with
    |zero=>
     rw[h0,decide_eq_true_iff]at h2 ⊢;omega
    |succ i=>
     rw[Q6]at h2 ⊢;exact h1 i (by omega) h2
   ·intro h1 i hi h2;have:=h1 (i+1) (by omega) (by rw[Q6];exact h2)
    rwa [Q6]at this
def FI(a c:Nat):Bool:=Nat.beq (Q3 c (255-a)) 0
def hasR_eq{a c:Nat}(ha:a<256)(hc:c<256):hasR 8 a c=FI a c:=by
 rw[Qm,hasR_bits];have e:∀i,(Q3 c (255-a)).testBit i=(c.testBit i&&(decide (i<8)&&!a.testBit i)):=by
  intro i;show(c&&& (255-a)).testBit i=_;rw[Nat.testBit_and,show 255-a=2 ^ 8-(a+1)by omega,Nat.testBit_two_pow_sub_succ (by omega)]
 constructor
 ·intro h;unfold FI;have:Q3 c (255-a)=0:=by
   refine Nat.eq_of_testBit_eq λi=>?_
   rw[e,Nat.zero_testBit];by_cases hi:i<8
   ·cases h1:c.testBit i with
    |false=>rfl
    |true=>rw[h i hi h1];simp
   ·simp[hi]
  rw[this];rfl
 ·intro h i hi h1;have h2:Q3 c (255-a)=0:=Nat.eq_of_beq_eq_true h;have h3:=e i;rw[h2,Nat.zero_testBit,h1]at h3;simpa[hi]using h3.symm
def u8id{x:Nat}(h:x<256):IntKind.u8.wrap (x:Int)=x:=by
 simp only[IntKind.wrap,IntKind.signed,IntKind.bits,Q2,QC,if_false];omega
def andNot_nat{a c:Nat}(ha:a<256)(hc:c<256):bits .andNot .u8 (c:Int) (a:Int)=((Q3 c (255-a):Nat):Int):=by
 have h1:(BitVec.ofInt 8 (c:Int)).toNat=c:=by rw[BitVec.toNat_ofInt];omega
 have h2:(BitVec.ofInt 8 (a:Int)).toNat=a:=by rw[BitVec.toNat_ofInt];omega
 have h3:(BitVec.ofInt 8 (c:Int)&&& ~~~ BitVec.ofInt 8 (a:Int)).toNat=Q3 c (255-a):=by
  rw[BitVec.toNat_and,BitVec.toNat_not,h1,h2];rfl
 have h4:Q3 c (255-a)<=c:=Nat.and_le_left;show IntKind.u8.wrap ((BitVec.ofInt 8 (c:Int)&&& ~~~ BitVec.ofInt 8 (a:Int)).toNat:Int)=_;rw[h3];generalize Q3 c (255-a)=x at h4;exact u8id (by omega)
def u8half{a:Nat}(ha:a<256):IntKind.u8.wrap ((a:Int).tdiv 2)=((a / 2:Nat):Int):=by
 rw[show(a:Int).tdiv 2=((a / 2:Nat):Int)by rw[Int.natCast_ediv];exact Int.tdiv_eq_ediv_of_nonneg (by omega)];exact u8id (by omega)
def natmod2{a:Nat}:(a:Int).tmod 2=((a % 2:Nat):Int):=rfl
def loop219{S:Summs}{ns:Id}{Q:Ex->St->Prop}{e:Bool}
  (hret:∀st,e=false->st.s 4= .bool false->Q .ret st) (hexit:∀st,e=true->Q (.exit 0) st):
  ∀(f i a c:Nat) st g,8=i+f->a<256->c<256->hasR f a c=e->st.s 0= .int .u8 (a:Int)->st.s 1= .int .u8 (c:Int)->st.s 5= .int .i64 (i:Int)->A8 S ns dc219l0 Q st g:=by
 intro f;induction f with
 |zero=>
  intro i a c st g hf ha hc he h0 h1 h5;refine Ae dc219l0.eq_1 ?_;have:¬((i:Int)<8):=by omega
  simp only[↓go1,go2,go4,simprocAttr,h5,this];exact hexit _ he.symm
 |succ f ih=>
  intro i a c st g hf ha hc he h0 h1 h5;refine Ae dc219l0.eq_1 ?_;unfold hasR at he;have hlt:((i:Int)<8):=by omega
  have hw:IntKind.i64.wrap ((i:Int)+1)=((i+1:Nat):Int):=w64 (by omega) (by omega);have n2:((2:Int)=0)=False:=by simp
  have ua:=u8half ha;have uc:=u8half hc;obtain⟨st_s,st_m,st_c⟩:=st;simp only at h0 h1 h5;by_cases hc1:c % 2=1
  ·have ec:(((c % 2:Nat):Int)=1)=True:=eq_true (by omega);by_cases ha1:a % 2=0
   ·have ea:(((a % 2:Nat):Int)=0)=True:=eq_true (by omega);rw[if_pos ⟨hc1,ha1⟩]at he;simp only[↓go1,go2,go4,simprocAttr,h0,h1,h5,hlt,natmod2,ec,ea,n2,ne_eq];exact hret _ he.symm rfl
   ·have ea:(((a % 2:Nat):Int)=0)=False:=eq_false (by omega);rw[if_neg (λh=>ha1 h.2)]at he;simp only[↓go1,go2,go4,simprocAttr,h0,h1,h5,hlt,hw,natmod2,ec,ea,n2,ua,uc,ne_eq];exact ih (i+1) _ _ _ _ (by omega) (by omega) (by omega) he rfl rfl rfl
  ·have ec:(((c % 2:Nat):Int)=1)=False:=eq_false (by omega);rw[if_neg (λh=>hc1 h.1)]at he;simp only[↓go1,go2,go4,simprocAttr,h0,h1,h5,hlt,hw,natmod2,ec,n2,ua,uc,ne_eq];exact ih (i+1) _ _ _ _ (by omega) (by omega) (by omega) he rfl rfl rfl
def F219:List D->Option D
 |[.int .u8 a,.int .u8 c]=>if 0<=a∧a<256∧0<=c∧c<256 then some (.bool (FI a.toNat c.toNat))else none
 |_=>none
def ok219:(Ac F219).ok Qc 219:=by
 refine Ay (S:=λ_=>none) AL fn219 (λds r h=>?_) (λds r h=>?_)
 ·unfold F219 at h;split at h
  ·simp
  ·cases h
 ·unfold F219 at h;split at h
  ·rename_i a c;split at h
   ·rename_i hc;obtain⟨h1,h2,h3,h4⟩:=hc;simp only[Qb]at h;subst h;obtain⟨a,rfl⟩:=Qu h1;obtain⟨c,rfl⟩:=Qu h3;simp only[Qe];have ha:a<256:=by omega
    have hc:c<256:=by omega
    unfold dc219;simp only[↓go1,go2,Qj];refine loop219 (e:=FI a c) (λst h1 h2=>?_) (λst h1=>?_) 8 0 a c _ _ (by omega) ha hc (hasR_eq ha hc) rfl rfl rfl
    ·simp only[↓go1,gB3,h1,h2]
    ·simp only[↓go1,gB3,reduceIte,Qj,h1]
   ·cases h
  ·cases h
structure RI (fr r:Id) (m0 m:Mem) (l:List Bs) (j:Nat):Prop where
 row:∀i,i<l.length->m r i=some (.str (if i<j then l.getD i []else []))
 out:∀i o,¬fr<:+i->m i o=m0 i o
def RI.put{fr r:Id}{m0 m:Mem}{l:List Bs}{j k o:Nat}{ds:List D}(h:RI fr r m0 m l j)(hk:(k::fr)≠r):RI fr r m0 (m.put (k::fr) o ds) l j:=by
 refine⟨λi hi=>?_,λi o' hn=>?_⟩
 ·rw[Mem.put_other (λe=>hk e.symm)];exact h.row i hi
 ·rw[Mem.put_other (λe=>hn (by rw[e];exact Qs _ _))];exact h.out i o' hn
def RI.fill{fr r:Id}{m0 m:Mem}{l:List Bs}{j:Nat}(h:RI fr r m0 m l j)(hr:fr<:+r):RI fr r m0 (m.put r j [.str (l.getD j [])]) l (j+1):=by
 refine⟨λi hi=>?_,λi o' hn=>?_⟩
 ·rw[Af];by_cases e:i=j
  ·subst e;rw[if_pos ⟨rfl,Qo _,by simp⟩,if_pos (by omega)];simp
  ·rw[if_neg (by simp;omega),h.row i hi];by_cases h2:i<j
   ·rw[if_pos h2,if_pos (by omega)]
   ·rw[if_neg h2,if_neg (by omega)]
 ·rw[Mem.put_other (λe=>hn (by rw[e];exact hr))];exact h.out i o' hn
def RI.start{fr:Id}{m:Mem}{l:List Bs}{k n:Nat}(hn:n=l.length):RI fr (k::fr) m (m.put (k::fr) 0 (QP n (.str []))) l 0:=by
 subst hn;refine⟨λi hi=>?_,λi o hn=>Mem.put_other (λe=>hn (by rw[e];exact Qs _ _))⟩;rw[Af,if_pos ⟨rfl,by omega,by simp;exact hi⟩,if_neg (by omega)];simp[hi]
def RI.fin{fr r:Id}{m0 m:Mem}{l:List Bs}(h:RI fr r m0 m l l.length)(hf:∀i o,fr<:+i->m0 i o=none):
  (∀(j:Nat) x,(l.map D.str)[j]?=some x->m r j=some x)∧∀i o x,m0 i o=some x->m i o=some x:=by
 refine⟨λj x hx=>?_,λi o x hx=>?_⟩
 ·have hj:j<l.length:=by have:=(QH.1 hx).1;simpa using this
  rw[h.row j hj,if_pos hj];simp[hj]at hx;simp[hj,hx]
 ·rw[h.out i o (λhs=>by rw[hf i o hs]at hx;cases hx)];exact hx
def rowS(F:List D->Option (List Bs)):Summ where
 rd:=λ_ _=>[]
 ex:=λds _ _=>(F ds).map λl=>(.slice false [] (l.map .str),[])
def rowS_ok{S:Summs}{P:Program}{f:FuncId}{N:Nat}{dc:DC}{rs:List RV}{F:List D->Option (List Bs)}(hS:Summs.ok P S)(hf:Fn P f N dc rs)
  (hwp:∀ds l m fr,F ds=some l->(∀i o,fr<:+i->m i o=none)->ds.length<=N∧dc.wp S fr (DO rs λd m'=>∃i,d= .row i l.length∧fr<:+i∧RI fr i m m' l l.length) ⟨Bx ds,m,0⟩):(rowS F).ok P f:=by
 refine opn_row hS hf (λ_ _ _ _ _=>rfl) (λds m fr r u hex hfr=>?_);simp only[rowS,Qf,Qh]at hex;obtain⟨l,hl,rfl,rfl⟩:=hex;obtain⟨h1,h2⟩:=hwp ds l m fr hl hfr;refine⟨h1,by simp,l.map .str,rfl,?_,?_⟩
 ·intro x hx;obtain⟨s,_,rfl⟩:=List.mem_map.1 hx;exact⟨rfl,rfl⟩
 ·refine wp_mono' h2 (λe st' h=>?_);obtain⟨a,d,hd,i,hdi,hs,hR⟩:=h;exact⟨a,d,hd,i,by simpa using hdi,hs,(hR.fin hfr).1,λi o x hx=>(hR.fin hfr).2 i o x hx⟩
open Classical in
def F199:List D->Option (List Bs)
 |[.slice _ _ xs]=>if xs=An (A9 xs)∧xs.length<=1000000 then some ((A9 xs).map (·.1))else none
 |_=>none
open Classical in
def F199_eq{nl:Bool}{t:Id}{l:List Rl}(hl:l.length<=1000000):F199 [.slice nl t (An l)]=some (l.map (·.1)):=by
 have h:An l=An (A9 (An l))∧(An l).length<=1000000:=by rw[AN,Av];exact⟨rfl,hl⟩
 show(if _ then _ else _)=_;rw[if_pos h,AN]
open Classical in
def F199_inv{ds:List D}{r:List Bs}(h:F199 ds=some r):∃nl t l,ds=[.slice nl t (An l)]∧l.length<=1000000∧r=l.map (·.1):=by
 unfold F199 at h;split at h
 ·rename_i nl t xs;split at h
  ·rename_i hc;obtain⟨h1,h2⟩:=hc;simp only[Qb]at h;subst h;refine⟨nl,t,A9 xs,by rw[←h1],?_,rfl⟩;rw[h1,Av]at h2;exact h2
  ·cases h
 ·cases h
def loop199{S:Summs}{fr:Id}{l:List Rl}{nl:Bool}{t:Id}{m0:Mem}{k:Nat}{Q:Ex->St->Prop}(hb:l.length<=1000000)
  (hexit:∀st,st.s 3= .row (k::fr) l.length->RI fr (k::fr) m0 st.m (l.map (·.1)) l.length->Q (.exit 0) st):
  ∀(f j:Nat) st g,l.length=j+f->k<st.c->st.s 3= .row (k::fr) l.length->st.s 9= .slice nl t (An l)->st.s 10= .int .i64 (l.length:Int)->st.s 11= .int .i64 (j:Int)->RI fr (k::fr) m0 st.m (l.map (·.1)) j->A8 S fr dc199l0 Q st g:=by
 intro f;induction f with
 |zero=>
  intro j st g hf hc h3 h9 h10 h11 I;refine Ae dc199l0.eq_1 ?_;have:¬((j:Int)<l.length):=by omega
  simp only[↓go1,go2,go4,reduceIte,Qj,h10,h11,this];exact hexit _ h3 (by rw[show l.length=j by omega];exact I)
 |succ f ih=>
  intro j st g hf hc h3 h9 h10 h11 I;refine Ae dc199l0.eq_1 ?_;have hj:j<l.length:=by omega
  have hlt:((j:Int)<l.length):=by omega
  have hj0:=nJ (j:=j);have hw:=wJ (j:=j) (by omega);have hat:(An l)[j]?=some (.agg [.str (Bl l j).1,.int .u8 (Bl l j).2]):=Dm hj;have hg:(l.map (·.1)).getD j []=(Bl l j).1:=by simp[Bl,Qd hj]
  generalize Bl l j=r at hat hg;have hne1:((st.c+1+3)::fr=k::fr)=False:=eq_false (by simp;omega);have hne2:(k::fr=(st.c+1+3)::fr)=False:=eq_false (by simp;omega);have hrow:=I.row j (by simpa using hj);rw[if_neg (by omega)]at hrow;obtain⟨st_s,st_m,st_c⟩:=st;simp only at h3 h9 h10 h11 hc hne1 hne2 hrow I;simp only[↓go1,gB0,reduceIte,Qk,Qj,h3,h9,h10,h11,hlt,hj0,hw,Qe,hat,hne2,hrow,Qo,false_and,Af,Ap,Aq,Nat.reduceLT,Qw,QZ,Za,Ze];refine ih (j+1) _ _ (by omega) (by simp only;omega) h3 h9 h10 rfl ?_;rw[←hg];exact((I.put (by simp;omega)).put (by simp;omega)).fill (Qs _ _)
def ok199:(rowS F199).ok Qc 199:=by
 refine rowS_ok (S:=λ_=>none) AL fn199 (λds r m fr h hfr=>?_);obtain⟨nl,t,l,rfl,hl,rfl⟩:=F199_inv h;refine⟨by simp,?_⟩;have hn0:((0:Int)<=(l.length:Int)):=by omega
 have hnb:((l.length:Int)*(((16:Nat):Int)+1)<=140737488355328)=True:=eq_true (by omega);unfold dc199;simp only[↓go1,gB2,reduceIte,Qk,Qj,hn0,hnb,Av,Qe,Int.le_refl,and_self];refine loop199 (l:=l) (nl:=nl) (t:=t) (m0:=m) (k:=3) hl (λst h1 h2=>?_) l.length 0 _ _ (by omega) (by simp only;omega) rfl rfl rfl rfl ?_
 ·simp only[↓go1,go2,reduceIte,Qk,Qj,h1,Ql];exact⟨_,rfl,Qs _ _,h2⟩
 ·exact RI.start (by simp)
end Go.Vd
end
