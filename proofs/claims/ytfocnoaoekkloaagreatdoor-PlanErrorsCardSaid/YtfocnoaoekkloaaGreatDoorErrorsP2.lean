/-
  A part of the proof: the layers over the model. Nothing in it is assumed.
-/
import Derived.Test.YtfocnoaoekkloaaGreatDoorErrorsP1
import Derived.IntWalk
import Derived.KernelRfl
import Derived.Test.YtfocnoaoekkloaaGreatDoorProg
import Derived.Laws.AppendOwn
import Derived.Shelf.Strings.Split

set_option linter.unusedSimpArgs false
set_option linter.unusedVariables false
set_option linter.defProp false
set_option maxHeartbeats 4000000
set_option maxRecDepth 100000
open And renaming intro→Qa
open Option.some renaming injEq→Qb,inj→QG
open Go.Proofs.Tryz renaming prog→Qc
open Int renaming toNat_natCast→Qd,eq_ofNat_of_zero_le→Ql
open List renaming getElem?_eq_getElem→Qe,length_map→Qg,length_cons→Qi,mem_of_getElem?→Qm,drop_zero→Qo,head?_cons→Qp,all_eq_true→Qt,getElem?_take_of_lt→Qu,getElem?_cons_succ→Qv,suffix_cons→Qw,getElem?_cons_zero→Qy,mem_cons_of_mem→QB,map_congr_left→QC,getElem_mem→QD,take_add_one→QH,map_map→QI,getElem?_eq_some_iff→QJ,drop_eq_getElem_cons→QK,drop_succ_cons→QL,map_cons→QM,mem_cons→QN,mem_cons_self→QO,findIdx?_eq_some_iff_getElem→QP,getElem?_map→QQ,replicate→QR,take_of_length_le→QS,suffix_refl→QW,count_eq_zero_of_not_mem→QX,length_nil→QY,getElem_of_mem→Q_,take_succ_cons→Q0,findIdx?_eq_none_iff→Q5,cons_append→Q6,drop_eq_nil_of_le→Q8,mem_map→Q9,getElem?_eq_none→Za,take_append_drop→Zb,take_zero→Zc,length_take_le→Zd,length→Zh
open Option renaming map_eq_some_iff→Qf,bind_some→Qx,map_some→Qz,bind_eq_some_iff→QE,isSome_some→Zf
open Nat renaming zero_add→Qh,reduceAdd→Qk,reduceEqDiff→Qn,zero_le→Qq,le_refl→Qs,land→QU,le_trans→Q1,sub_zero→Q2,lt_of_lt_of_le→Q3,testBit_succ→Q7,add_zero→Zg
open Prod.mk renaming injEq→Qj
open Bool renaming eq_iff_iff→Qr,false_eq_true→QF,eq_false_iff→QT,and_eq_true→QV,false_and→Q4,true_and→Ze
open Array renaming getElem?_eq_some_iff→QA
open List.cons renaming injEq→QZ
open Go.Proofs.Tryz
noncomputable section
namespace Go.Vd
open Go.RowKit
def DOper.strip(o:DOper):DOper:={o with after:=[]}
def Eh(S:Summs)(ns:Id)(c:Nat)(ops:List DOper):List DOper->Nat->(Nat->D)->Mem->Option ((Nat->D)×Mem)
 |[],_,s,m=>some (s,m)
 |o::l,k,s,m=>match BG S ops ((c+k)::ns) o s m with
  |some e=>Eh S ns c ops l (k+1) (BS s o.dst e.d) (Upd.app m e.u)
  |none=>none
def guardOf_strip(ops:List DOper)(s:Nat->D)(o:DOper):Bo (ops.map DOper.strip) s o.strip=Bo ops s o:=by
 unfold Bo;simp only[DOper.strip];cases o.guard with
 |none=>rfl
 |some p=>
  obtain⟨j,b⟩:=p;simp only[QQ];cases ops[j]?<;>rfl
def effOf_strip(S:Summs)(ops:List DOper)(fr:Id)(o:DOper)(s:Nat->D)(m:Mem):BG S (ops.map DOper.strip) fr o.strip s m=BG S ops fr o s m:=by
 unfold BG;rw[guardOf_strip];rfl
def evRow_strip(S:Summs)(ns:Id)(c:Nat)(ops:List DOper):∀(l:List DOper)(k:Nat)(s:Nat->D)(m:Mem),Eh S ns c (ops.map DOper.strip) (l.map DOper.strip) k s m=Eh S ns c ops l k s m
 |[],k,s,m=>rfl
 |o::l,k,s,m=>by
  simp only[QM,Eh,effOf_strip];cases BG S ops ((c+k)::ns) o s m with
  |none=>rfl
  |some e=>simp only;exact evRow_strip S ns c ops l (k+1) _ _
def Gz(S:Summs)(ns:Id)(c:Nat)(ops:List DOper):∀(l:List DOper)(k:Nat)(s:Nat->D)(m:Mem),Cc S ns c (ops.map DOper.strip) (l.map DOper.strip) k s m=Cc S ns c ops l k s m
 |[],k,s,m=>rfl
 |o::l,k,s,m=>by
  simp only[QM,Cc,effOf_strip];cases BG S ops ((c+k)::ns) o s m with
  |none=>rfl
  |some e=>simp only;rw[show o.strip.dst=o.dst from rfl,Gz S ns c ops l (k+1) _ _];rfl
def evRow_sched(S:Summs)(ns:Id)(c:Nat)(ops:List DOper):∀(l:List DOper)(k:Nat)(s:Nat->D)(m:Mem),l=ops.drop k->Eh S ns c ops l k s m=CD S ns c ops (List.range' k l.length) s m
 |[],k,s,m,_=>rfl
 |o::l,k,s,m,hl=>by
  have hok:ops[k]?=some o:=by
   have:(ops.drop k)[0]?=some o:=by rw[←hl];rfl
   rw[List.getElem?_drop]at this;simpa using this
  have hl':l=ops.drop (k+1):=by
   have:(ops.drop k).drop 1=ops.drop (k+1):=by rw[List.drop_drop]
   rw[←this,←hl];rfl
  rw[Qi,List.range'_succ];simp only[Eh,CD,hok];cases BG S ops ((c+k)::ns) o s m with
  |none=>rfl
  |some e=>simp only;exact evRow_sched S ns c ops l (k+1) _ _ hl'
inductive DC where
 |skip
 |ret
 |exit (i:Nat)
 |row (ops:List DOper)
 |drawn (ops:List DOper) (ps:List (Nat×Nat))
 |seq (a b:DC)
 |cond (c:Arg) (a b:DC)
 |block (i:Nat) (c:DC)
 |loop (c:DC)
def befsFrom(ps:List (List Nat)):List (List Nat):=
 ps.foldl (λacc p=>acc++[(p.flatMap λj=>j::acc.getD j []).eraseDups]) []
def mkDrawn(P:Program)(N:Nat)(ops:Array Oper):Option DC:=
 match CN P N ops.toList with
 |some dops=>
  if FF (dops.map (·.after)) (befsFrom (dops.map (·.after)))=true∧slotsOk dops (befsFrom (dops.map (·.after)))=true∧Fm .any ops (Region.linearise .any ops 0)=true∧
   Fm .text ops (Region.linearise .text ops 0)=true∧Fm .gc ops (Region.linearise .gc ops 0)=true
  then some (.drawn (dops.map DOper.strip) (pairsOf dops (befsFrom (dops.map (·.after)))))else none
 |none=>none
def AD(P:Program)(N:Nat):Code->Option DC
 | .skip=>some .skip
 | .ret=>some .ret
 | .exit i=>some (.exit i)
 | .region _ ops false=>(CN P N ops.toList).map λl=> .row (l.map DOper.strip)
 | .region _ ops true=>mkDrawn P N ops
 | .seq a b=>match AD P N a,AD P N b with
  |some a,some b=>some (.seq a b)
  |_,_=>none
 | .cond c a b=>match AC c,AD P N a,AD P N b with
  |some c,some a,some b=>some (.cond c a b)
  |_,_,_=>none
 | .block i c=>(AD P N c).map (.block i)
 | .loop c=>(AD P N c).map .loop
 |_=>none
structure St where
 s:Nat->D
 m:Mem
 c:Nat
inductive Ex where
 |normal
 |ret
 |exit (i:Nat)
def Ex.toExit:Ex->Exit
 | .normal=> .normal
 | .ret=> .ret
 | .exit i=> .exit i
inductive Lp (R:St->Ex->St->Prop):Nat->St->Ex->St->Prop
 |stop (st:St) (e:Ex) (st':St):R st e st'->e≠ .normal->Lp R 0 st e st'
 |more (n:Nat) (st st1:St) (e:Ex) (st':St):R st .normal st1->Lp R n st1 e st'->Lp R (n+1) st e st'
def Ev(S:Summs)(ns:Id):DC->St->Ex->St->Prop
 | .skip,st,e,st'=>e= .normal∧st'=st
 | .ret,st,e,st'=>e= .ret∧st'=st
 | .exit i,st,e,st'=>e= .exit i∧st'=st
 | .row ops,st,e,st'=>e= .normal∧Eh S ns st.c ops ops 0 st.s st.m=some (st'.s,st'.m)∧st'.c=st.c+ops.length
 | .drawn ops ps,st,e,st'=>e= .normal∧(∃f,Cc S ns st.c ops ops 0 st.s st.m=some (st'.s,st'.m,f)∧feetOk f ps)∧st'.c=st.c+ops.length
 | .seq a b,st,e,st'=>∃e1 st1,Ev S ns a st e1 st1∧((e1= .normal∧Ev S ns b st1 e st')∨(e1≠ .normal∧e=e1∧st'=st1))
 | .cond c a b,st,e,st'=>(c.ev st.s= .bool true∧Ev S ns a st e st')∨(c.ev st.s= .bool false∧Ev S ns b st e st')
 | .block i c,st,e,st'=>∃e1,Ev S ns c st e1 st'∧((e1= .exit i∧e= .normal)∨(e1≠ .exit i∧e=e1))
 | .loop c,st,e,st'=>∃n,Lp (Ev S ns c) n st e st'
def DC.wp(S:Summs)(ns:Id)(dc:DC)(Q:Ex->St->Prop)(st:St):Prop:=∃e st',Ev S ns dc st e st'∧Q e st'
def wp_loop_n{P:Program}{Q:Exit->Act->World->Prop}{c:Code}(J:Nat->Act->World->Prop)
  (round:∀n a w,J n a w->c.wp P (Exit.then (λa' w'=>∃k,k<n∧J k a' w') Q) a w) {n:Nat} {a:Act} {w:World} (h0:J n a w):(Code.loop c).wp P Q a w:=by
 intro b k cs;have key:∀n a w,J n a w->∃e a' w',Q e a' w'∧Arrives P (lone (b.at a (.code c:: .inLoop c::k)) cs w) b k cs e a' w':=by
  intro n;induction n using Nat.strongRecOn with
  |_ n ih=>
   intro a w hI;obtain⟨e,a₁,w₁,hq,harr⟩:=round n a w hI b (.inLoop c::k) cs;cases e with
   |normal=>
    obtain⟨n',hlt,hI₁⟩:=hq;obtain⟨e₂,a₂,w₂,hq₂,harr₂⟩:=ih n' hlt a₁ w₁ hI₁;exact⟨e₂,a₂,w₂,hq₂,.of_steps (Steps.trans harr (.one step_inLoop)) harr₂⟩
   |exit id=>exact⟨_,a₁,w₁,hq,.pass (x:= .inLoop c) rfl (λ_ _=> .inl (by simp)) harr⟩
   |goto l=>exact⟨_,a₁,w₁,hq,.pass (x:= .inLoop c) rfl (λ_ _=> .inl (by simp)) harr⟩
   |ret=>exact⟨_,a₁,w₁,hq,.pass (x:= .inLoop c) rfl (λ_ _=> .inl (by simp)) harr⟩
   |panic ch=>exact⟨_,a₁,w₁,hq,.pass (x:= .inLoop c) rfl (λ_ _=> .inl (by simp)) harr⟩
   |outgrown=>exact⟨_,a₁,w₁,hq,.pass (x:= .inLoop c) rfl (λ_ _=> .inl (by simp)) harr⟩
 obtain⟨e,a',w',hq,harr⟩:=key n a w h0;exact⟨e,a',w',hq,.of_steps (.one step_loop) harr⟩
section
variable{P:Program}{B:Nat}{w0:World}{N:Nat}{ns:Id}{S:Summs}
def Cn{ops:Array Oper}{dc:DC}(h:mkDrawn P N ops=some dc):∃dops befs,CN P N ops.toList=some dops∧FF (dops.map (·.after)) befs=true∧slotsOk dops befs=true∧
  (∀md,Fm md ops (Region.linearise md ops 0)=true)∧dc= .drawn (dops.map DOper.strip) (pairsOf dops befs):=by
 unfold mkDrawn at h;split at h
 ·rename_i dops hd;split at h
  ·rename_i hc;simp only[Qb]at h;refine⟨dops,_,hd,hc.1,hc.2.1,λmd=>?_,h.symm⟩;cases md
   ·exact hc.2.2.2.1
   ·exact hc.2.2.2.2
   ·exact hc.2.2.1
  ·cases h
 ·cases h
def Holds(P:Program)(B:Nat)(w0:World)(N:Nat)(ns:Id)(st:St)(a:Act)(w:World)(g:Gh):Prop:=InS P B w0 N ns st.c st.s st.m a w g
def Post(P:Program)(B:Nat)(w0:World)(N:Nat)(ns:Id)(st:St)(w:World)(g:Gh)(e:Ex)(st':St):Exit->Act->World->Prop:=
 λe' a' w'=>e'=e.toExit∧∃g',Holds P B w0 N ns st' a' w' g'∧Ext w g w' g'∧EG ns st.m g st'.m g'
def Post.trans{st st1 st':St}{w w1:World}{g g1:Gh}{e:Ex}{e':Exit}{a':Act}{w':World}(hx:Ext w g w1 g1)(hk:EG ns st.m g st1.m g1)(h:Post P B w0 N ns st1 w1 g1 e st' e' a' w'):Post P B w0 N ns st w g e st' e' a' w':=by
 obtain⟨h1,g',h2,h3,h4⟩:=h;exact⟨h1,g',h2,hx.trans h3,hk.trans h4⟩
def schedule_goes{ops:Array Oper}{dops:List DOper}{befs:List (List Nat)}(hops:CN P N ops.toList=some dops)(hb:FF (dops.map (·.after)) befs=true)
  (hord:∀md,Fm md ops (Region.linearise md ops 0)=true) (mixed:Bool) (t:Nat):
  Goes dops (EX befs) (λ_=>false) (Region.schedule mixed ops t)∧(Region.schedule mixed ops t).foldl ins (λ_=>false)=below dops.length:=by
 obtain⟨hl,hall⟩:=Ck hops;have hlen:dops.length=ops.size:=by simpa using hl
 have hps:∀(k:Nat) o,ops[k]?=some o->(dops.map (·.after)).getD k []=preds o:=by
  intro k o ho;obtain⟨d,hd,htr⟩:=hall k o (by simpa using ho);simp[List.getD,hd,(Cg htr).2.2.1]
 rw[hlen];unfold Region.schedule;split
 ·exact ET hlen hps hb (hord .any) t
 ·split
  ·exact ET hlen hps hb (hord .text) (t / 2)
  ·exact ET hlen hps hb (hord .gc) (t / 2)
def ev_sound(hS:Summs.ok P S):∀(code:Code)(dc:DC),AD P N code=some dc->∀(st:St)(e:Ex)(st':St),Ev S ns dc st e st'->∀(a:Act)(w:World)(g:Gh),Holds P B w0 N ns st a w g->
  code.wp P (Post P B w0 N ns st w g e st') a w:=by
 intro code;induction code with
 |skip=>
  intro dc htr st e st' hev a w g hx;simp only[AD,Qb]at htr;subst htr;obtain⟨rfl,rfl⟩:=hev;exact wp_skip ⟨rfl,g,hx,Ext.refl w g,EG.refl _ _ _⟩
 |ret=>
  intro dc htr st e st' hev a w g hx;simp only[AD,Qb]at htr;subst htr;obtain⟨rfl,rfl⟩:=hev;exact wp_ret ⟨rfl,g,hx,Ext.refl w g,EG.refl _ _ _⟩
 |exit i=>
  intro dc htr st e st' hev a w g hx;simp only[AD,Qb]at htr;subst htr;obtain⟨rfl,rfl⟩:=hev;exact wp_exit ⟨rfl,g,hx,Ext.refl w g,EG.refl _ _ _⟩
 |region id ops draw=>
  intro dc htr st e st' hev a w g hx;cases draw with
  |false=>
   simp only[AD,Qf]at htr;obtain⟨dops,hops,rfl⟩:=htr;obtain⟨rfl,he,hc⟩:=hev;rw[evRow_strip,evRow_sched S ns st.c dops dops 0 _ _ rfl,←List.range_eq_range']at he;refine region_wp hS hops he hx (λa' w' g' h1 h2 h3=>⟨rfl,g',?_,h2,h3⟩);unfold Holds;rw[hc,Qg];exact h1
  |true=>
   simp only[AD]at htr;obtain⟨dops,befs,hops,hb,hs,hord,rfl⟩:=Cn htr;obtain⟨rfl,⟨f,he,hf⟩,hc⟩:=hev;rw[Gz]at he;refine wp_region_draw (λt=>?_);obtain⟨g1,g2⟩:=schedule_goes hops hb hord (P.follows .mixedOrders) t;have hsch:=text_sched (c:=st.c) (ns:=ns) hS hb hs he hf g1 g2;have hx':InS P B w0 N ns st.c st.s st.m a w.drew g:=⟨hx.inv.drew,λt=>(hx.slots t).ext (Ext.drew w g),hx.size,hx.defers,hx.fresh⟩;refine D9 hS hops _ (λ_=>false) st.s st.m a w.drew g st'.s st'.m (fits_goes g1) hsch (hx'.start _) (λa' w' g' h1 h2 h3=>⟨rfl,g',?_,(Ext.drew w g).trans h2,h3⟩);unfold Holds;rw[hc,Qg];rw[g2]at h1;exact h1.done
 |seq x y ihx ihy=>
  intro dc htr st e st' hev a w g hx;simp only[AD]at htr;split at htr
  ·rename_i dx dy h1 h2;simp only[Qb]at htr;subst htr;obtain⟨e1,st1,hev1,hor⟩:=hev;have hwp:=ihx dx h1 st e1 st1 hev1 a w g hx;refine wp_seq (wp_mono hwp ?_);rintro e' a' w' ⟨rfl,g',hh,hxt,hkp⟩;rcases hor with ⟨rfl,hev2⟩|⟨hne,rfl,rfl⟩
   ·exact wp_mono (ihy dy h2 st1 e st' hev2 a' w' g' hh) (λe'' a'' w'' h=>h.trans hxt hkp)
   ·cases e with
    |normal=>exact absurd rfl hne
    |ret=>exact⟨rfl,g',hh,hxt,hkp⟩
    |exit i=>exact⟨rfl,g',hh,hxt,hkp⟩
  ·cases htr
 |cond c x y ihx ihy=>
  intro dc htr st e st' hev a w g hx;simp only[AD]at htr;split at htr
  ·rename_i dcc dx dy h0 h1 h2;simp only[Qb]at htr;subst htr;have hc:=hx.slots.arg h0;rcases hev with ⟨ht,hev⟩|⟨ht,hev⟩
   ·rw[ht]at hc;exact wp_cond_true hc.bool_inv (ihx dx h1 st e st' hev a w g hx)
   ·rw[ht]at hc;exact wp_cond_false hc.bool_inv (ihy dy h2 st e st' hev a w g hx)
  ·cases htr
 |block i c ih=>
  intro dc htr st e st' hev a w g hx;simp only[AD,Qf]at htr;obtain⟨dcc,h1,rfl⟩:=htr;obtain⟨e1,hev1,hor⟩:=hev;refine wp_block (wp_mono (ih dcc h1 st e1 st' hev1 a w g hx) ?_);rintro e' a' w' ⟨rfl,g',hh,hxt,hkp⟩;rcases hor with ⟨rfl,rfl⟩|⟨hne,rfl⟩
  ·simp only[Ex.toExit,Exit.inBlock,if_true];exact⟨rfl,g',hh,hxt,hkp⟩
  ·cases e with
   |normal=>exact⟨rfl,g',hh,hxt,hkp⟩
   |ret=>exact⟨rfl,g',hh,hxt,hkp⟩
   |exit j=>
    simp only[Ex.toExit,Exit.inBlock];rw[if_neg (λe=>hne (by rw[e]))];exact⟨rfl,g',hh,hxt,hkp⟩
 |loop c ih=>
  intro dc htr st e st' hev a w g hx;simp only[AD,Qf]at htr;obtain⟨dcc,h1,rfl⟩:=htr;obtain⟨n,hlp⟩:=hev;refine wp_loop_n (λn a' w'=>∃st1 g1,Holds P B w0 N ns st1 a' w' g1∧Ext w g w' g1∧EG ns st.m g st1.m g1∧Lp (Ev S ns dcc) n st1 e st') ?_ ⟨st,g,hx,Ext.refl w g,EG.refl _ _ _,hlp⟩;rintro n a1 w1 ⟨st1,g1,hh,hxt,hkp,hlp1⟩;cases hlp1 with
  |stop _ _ _ hr hne=>
   refine wp_mono (ih dcc h1 st1 e st' hr a1 w1 g1 hh) ?_;rintro e' a' w' hp;have hp':=hp.trans hxt hkp;obtain⟨rfl,_⟩:=hp;cases e with
   |normal=>exact absurd rfl hne
   |ret=>exact hp'
   |exit i=>exact hp'
  |more n' _ st2 _ _ hr hlp2=>
   refine wp_mono (ih dcc h1 st1 .normal st2 hr a1 w1 g1 hh) ?_;rintro e' a' w' ⟨rfl,g',hh',hxt',hkp'⟩;exact⟨n',Nat.lt_succ_self _,st2,g',hh',hxt.trans hxt',hkp.trans hkp',hlp2⟩
 |_=>
  intro dc htr;simp[AD]at htr
end
def calm_flat{xs:List D}(h:∀d∈xs,d.calm=true):∀x∈flat xs,x.calm=true:=by
 induction xs with
 |nil=>intro x hx;cases hx
 |cons d r ih=>
  intro x hx;simp only[flat,List.mem_append]at hx;rcases hx with hx|hx
  ·exact calm_cells (h d (QO ..)) x hx
  ·exact ih (λd hd=>h d (QB _ hd)) x hx
def calm_agg{cs:List D}(h:(D.agg cs).calm=true):∀x∈cs,x.calm=true:=calm_cells h
def Rep.calm_to{w w':World}{g g':Gh}{d:D}{v:Value}(h:Rep w g d v)(hc:d.calm=true)(hcell:∀p:Addr,p.off<g.G p.block->w'.cell? p=w.cell? p)(hG:∀b,g.G b<=g'.G b):Rep w' g' d v:=by
 induction h with
 |junk v=>exact .junk v
 |bool b=>exact .bool b
 |int k n=>exact .int k n
 |str s=>exact .str s
 |nils t=>exact .nils t
 |slice t xs a n c sz vv h1 h2 h3 h4 h5 h6 h7 h8 h9 ih=>
  have ht:t=[]:=by simpa[D.calm,D.calm1]using hc
  subst ht;refine .slice [] xs a n c sz vv h1 h2 h3 (λj hj=>?_) h5 (λj d hd=>ih j d hd (calm_flat h9 d (Qm hd))) (λh=>Q1 (h7 h) (hG _)) (λh=>absurd rfl h) h9;rw[hcell _ (by rw[DX,GE];have:=h7 (by omega);omega)];exact h4 j hj
 |ptr i o b h1=>simp[D.calm,D.calm1]at hc
 |row i n c b h0 h1=>simp[D.calm,D.calm1]at hc
 |eptr ds a vv h1 h2 h3 h4 h5=>simp[D.calm,D.calm1]at hc
 |nilp=>exact .nilp
 |agg ds vs h1 h2 h3 ih=>exact .agg ds vs h1 h2 (λj d v hd hv=>ih j d v hd hv (calm_agg hc d (Qm hd)))
 |tup ds vs h1 h2 ih=>simp[D.calm,D.calm1]at hc
 |iface t d v h1 h2 ih=>exact .iface t d v h1 (ih h1)
 |nili=>exact .nili
 |fn f ds vs h1 h2 ih=>
  have:ds=[]:=by simpa[D.calm,D.calm1]using hc
  subst this;exact .fn f [] vs h1 (by simp)
 |nilf=>exact .nilf
 |nilm=>exact .nilm
 |itp i b h1=>simp[D.calm,D.calm1]at hc
def D.unR:D->D
 | .tup vs=> .tup (vs.map D.un)
 |d=>d.un
def D.calmR:D->Bool
 | .tup vs=>vs.all D.calm
 |d=>d.calm
def Rep.unR{w:World}{g:Gh}{d:D}{v:Value}(h:Rep w g d v):Rep w g d.unR v:=by
 cases d with
 |tup vs=>
  obtain⟨us,rfl,h1,h2⟩:=h.tup_inv;refine .tup _ us (by simp[h1]) (λj d v hd hv=>?_);rw[QQ,Qf]at hd;obtain⟨d',hd',rfl⟩:=hd;exact(h2 j d' v hd' hv).un
 |_=>exact h.un
def Rep.calmR_to{w w':World}{g g':Gh}{d:D}{v:Value}(h:Rep w g d v)(hc:d.calmR=true)(hcell:∀p:Addr,p.off<g.G p.block->w'.cell? p=w.cell? p)(hG:∀b,g.G b<=g'.G b):Rep w' g' d v:=by
 cases d with
 |tup vs=>
  obtain⟨us,rfl,h1,h2⟩:=h.tup_inv;exact .tup _ us h1 (λj d v hd hv=>(h2 j d v hd hv).calm_to (Qt.1 hc d (Qm hd)) hcell hG)
 |_=>exact h.calm_to hc hcell hG
inductive RV where
 |t (n:Nat)
 |cell (k:Option Nat) (n:Nat)
def ldD(m:Mem)(k:Option Nat):D->Option D
 | .ptr i o=>match k with
  |none=>m i o
  |some n=>(Ag m i o n).map .agg
 |_=>none
def RV.of(s:Nat->D)(m:Mem):RV->Option D
 | .t n=>some (s n)
 | .cell k n=>ldD m k (s n)
def Ff(s:Nat->D)(m:Mem):List RV->Option (List D)
 |[]=>some []
 |r::l=>match r.of s m,Ff s m l with
  |some d,some ds=>some (d::ds)
  |_,_=>none
def BY(rs:List RV)(s:Nat->D)(m:Mem):Option D:=
 match Ff s m rs with
 |some [d]=>some d
 |some ds=>some (.tup ds)
 |none=>none
def trRes(P:Program):List ResultVar->Option (List RV)
 |[]=>some []
 | .tmp t::r=>(trRes P r).map (.t t::·)
 | .cell a t::r=>match kOf P t,trRes P r with
  |some k,some l=>some (.cell k a::l)
  |_,_=>none
section
variable{P:Program}{B:Nat}{w0 w w':World}{m:Mem}{g:Gh}{s:Nat->D}{a:Act}
def rvRun(tmps:Array Value):ResultVar->Sem Value
 | .tmp t=>pure (tmps.getD t undef)
 | .cell a t=>do loadVar t (←asAddr (tmps.getD a undef))
def rvAll_sound(hi:InvM P B w0 m w g)(hs:Dq w g s a):∀{rvs:List ResultVar} {rs:List RV} {ds:List D},trRes P rvs=some rs->Ff s m rs=some ds->
  ∃vs:List Value,(rvs.mapM (m:=Sem) (rvRun a.tmps)).run P w= .ok vs w∧vs.length=ds.length∧∀(j:Nat) d v,ds[j]?=some d->vs[j]?=some v->Rep w g d v
 |[],rs,ds,h1,h2=>by
  simp only[trRes,Qb]at h1;subst h1;simp only[Ff,Qb]at h2;subst h2;exact⟨[],by simp,rfl,by simp⟩
 |x::r,rs,ds,h1,h2=>by
  have key:∃rv rs',rs=rv::rs'∧trRes P r=some rs'∧∀d,rv.of s m=some d->∃v,(rvRun a.tmps x).run P w= .ok v w∧Rep w g d v:=by
   cases x with
   |tmp t=>
    simp only[trRes,Qf]at h1;obtain⟨l,hl,rfl⟩:=h1;refine⟨.t t,l,rfl,hl,λd hd=>?_⟩;simp only[RV.of,Qb]at hd;subst hd;exact⟨_,rfl,hs t⟩
   |cell y t=>
    simp only[trRes]at h1;split at h1
    ·rename_i k l hk hl;simp only[Qb]at h1;subst h1;refine⟨.cell k y,l,rfl,hl,λd hd=>?_⟩;simp only[RV.of]at hd;unfold ldD at hd;split at hd
     ·rename_i i o e;have hr:=hs y;rw[e]at hr;obtain⟨b,e1,hb⟩:=hr.ptr_inv;split at hd
      ·obtain⟨v,c1,c2,c3⟩:=hi.cell hb hd;exact⟨v,by simp[rvRun,e1,asAddr,DR hk c1],c3⟩
      ·rename_i n;rw[Qf]at hd;obtain⟨ds,hds,rfl⟩:=hd;obtain⟨vs,c1,c2⟩:=hi.cells hb hds;have hl:=(BM hds).1;have:=Ek (P:=P) (w:=w) hk (ad:=⟨b,o,none⟩) (vs:=vs) (by rw[c1.1,hl]) (λj v hv=>by rw[DU];exact c2 j v hv);exact⟨_,by simp[rvRun,e1,asAddr,this],Rep.aggOf c1⟩
     ·cases hd
    ·cases h1
  obtain⟨rv,rs',rfl,hl,hx⟩:=key;unfold Ff at h2;split at h2
  ·rename_i d ds' e1 e2;simp only[Qb]at h2;subst h2;obtain⟨v,q1,q2⟩:=hx d e1;obtain⟨vs,p1,p2,p3⟩:=rvAll_sound hi hs hl e2;refine⟨v::vs,?_,by simp[p2],λj d v hd hv=>?_⟩
   ·rw[List.mapM_cons];simp only[Sem.run_bind,q1,Result.andThen_ok,p1,Sem.run_pure]
   ·cases j with
    |zero=>simp only[Qy,Qb]at hd hv;subst hd hv;exact q2
    |succ j=>simp only[Qv]at hd hv;exact p3 j d v hd hv
  ·cases h2
def resOf_sound{fn:Func}{rs:List RV}{d:D}(hi:InvM P B w0 m w g)(hs:Dq w g s a)(hr:trRes P fn.results.toList=some rs)(hd:BY rs s m=some d):
  ∃v,(results fn a.tmps).run P w= .ok v w∧Rep w g d v:=by
 unfold BY at hd;have run:∀ds,Ff s m rs=some ds->∃vs:List Value,(results fn a.tmps).run P w= .ok (if h:vs.toArray.size=1 then vs.toArray[0]else .tuple vs.toArray) w∧vs.length=ds.length∧∀(j:Nat) d v,ds[j]?=some d->vs[j]?=some v->Rep w g d v:=by
  intro ds hds;obtain⟨vs,p1,p2,p3⟩:=rvAll_sound hi hs hr hds;refine⟨vs,?_,p2,p3⟩;have hres:results fn a.tmps=(do
   let vs ←fn.results.mapM (rvRun a.tmps)
   pure (if h:vs.size=1 then vs[0]else .tuple vs)):=by
   unfold results;congr 1
  rw[hres];simp only[Sem.run_bind];rw[Array.mapM_eq_mapM_toList,Sem.run_map,p1];rfl
 split at hd
 ·rename_i d' e;simp only[Qb]at hd;subst hd;obtain⟨vs,p1,p2,p3⟩:=run _ e
  match vs,p2 with
  |[v],_=>exact⟨v,p1,p3 0 _ v rfl rfl⟩
 ·rename_i ds hne e;simp only[Qb]at hd;subst hd;obtain⟨vs,p1,p2,p3⟩:=run _ e;refine⟨.tuple vs.toArray,?_,.tup ds vs p2 p3⟩;rw[p1,dif_neg];intro h1
  match ds,hne,p2 with
  |[],_,p2=>simp at p2;subst p2;simp at h1
  |[x],hne,_=>exact hne x rfl
  |x::y::r,_,p2=>simp at p2 h1;omega
 ·cases hd
def InvM.less(h:InvM P B w0 m w g){m':Mem}(hle:∀i o d,m' i o=some d->m i o=some d):InvM P B w0 m' w g:=by
 refine⟨h.below,h.size,h.gz,h.old,λi b hi=>?_,h.inj,λi o d hm hn=>h.kind i o d (hle _ _ _ hm) hn,λi e hi=>h.tok i e (hle _ _ _ hi),λi1 i2 e1 e2 b y y' h1 h2 h3 h4=>h.tinj i1 i2 e1 e2 b y y' (hle _ _ _ h1) (hle _ _ _ h2) h3 h4,h.itr.to (λi s p e=>hle _ _ _ e) λi b s p _ _ _ e1 e2 e3=>⟨rfl,rfl,e2,e3⟩⟩;obtain⟨p,q,vs,T,hh,r⟩:=h.obj i b hi;exact⟨p,q,vs,T,hh,λo d hm=>r o d (hle _ _ _ hm)⟩
def Gh.glue(g:Gh)(w:World)(G':Nat->Nat):Gh:={g with G:=λb=>if b<w.heap.size then g.G b else G' b}
def Ext.glue{G':Nat->Nat}(hgz:∀b,w.heap.size<=b->g.G b=0)(hb:Below w.heap.size w w'):Ext w g w' (g.glue w G'):=by
 refine⟨λp hp=>?_,λb=>?_,λi b h=>h,rfl,λi x h=>h⟩
 ·by_cases hlt:p.block<w.heap.size
  ·exact hb.cell hlt
  ·rw[hgz _ (by omega)]at hp;omega
 ·simp only[Gh.glue];split
  ·exact Qs _
  ·rw[hgz b (by omega)];exact Qq _
def InvM.glue(h:InvM P B w0 m w g)(hb:Below w.heap.size w w'){G':Nat->Nat}(hG:∀b,w'.heap.size<=b->G' b=0):InvM P B w0 m w' (g.glue w G'):=by
 have x:=Ext.glue (G':=G') h.gz hb;refine⟨h.below.trans (hb.mono h.size),Q1 h.size hb.size,λb hbz=>?_,λb hlt=>by simp only[Gh.glue];rw[if_pos (Q3 hlt h.size)];exact h.old b hlt,λi b hi=>?_,h.inj,h.kind,λi e hi=>?_,h.tinj,h.itr.to (λ_ _ _ e=>e) λi b s p _ _ _ e1 e2 e3=>?_⟩
 rotate_right
 ·have hlt:b<w.heap.size:=(QA.1 e1).1;exact⟨rfl,hb.block b hlt,by simp[Gh.glue,hlt,e2],e3⟩
 ·simp only[Gh.glue];rw[if_neg (by have:=hb.size;omega)];exact hG b hbz
 ·obtain⟨p,q,vs,T,hh,r⟩:=h.obj i b hi;have hlt:=h.lt hi;refine⟨p,by simp[Gh.glue,hlt,q],vs,T,(hb.block b hlt).trans hh,λo d hm=>?_⟩;obtain⟨v,r1,r2,r3⟩:=r o d hm;exact⟨v,r1,r2,r3.ext x⟩
 ·obtain⟨b,n,c,sz,cur,t1,t2,t3,t4,t5,t6,t7,t8,t9,t10⟩:=h.tok i e hi;have hlt:b<w.heap.size:=(QA.1 t5).1;exact⟨b,n,c,sz,cur,t1,t2,t3,t4,(hb.block b hlt).trans t5,t6,t7,t8,by simp[Gh.glue,hlt,t9],t10⟩
end
structure Fn (P:Program) (f:FuncId) (N:Nat) (dc:DC) (rs:List RV):Prop where
 is:∃fn code,P.funcs[f]?=some fn∧fn.body=some code∧(fn.name== "runtime.NumGoroutine")=false∧fn.ntmps=N∧AD P N code=some dc∧trRes P fn.results.toList=some rs
def Br(ds:List D):Nat->D:=λt=>ds.getD t .junk
def Ac(F:List D->Option D):Summ where
 rd:=λ_ _=>[]
 ex:=λds _ _=>if(ds.map D.un).all D.calm=true then(F (ds.map D.un)).map λr=>(r,[])else none
def DY(rs:List RV)(R:D->Mem->Prop)(e:Ex)(st:St):Prop:=(e= .normal∨e= .ret)∧∃d,BY rs st.s st.m=some d∧R d st.m
section
variable{P:Program}{S:Summs}{f:FuncId}{N:Nat}{dc:DC}{rs:List RV}
def F8{B:Nat}{w0 w:World}{g:Gh}{ns:Id}{m:Mem}{ds:List D}{vs:List Value}(hS:Summs.ok P S)(hf:Fn P f N dc rs)(hN:ds.length<=N)(hi:InvM P B w0 m w g)
  (hfresh:∀k i,(k::ns)<:+i->BR m g i) (hl:vs.length=ds.length) (hrep:∀(j:Nat) d v,ds[j]?=some d->vs[j]?=some v->Rep w g d v) {R:D->Mem->Prop}
  (hwp:dc.wp S ns (DY rs R) ⟨Br ds,m,0⟩):
  Calls P f vs.toArray w λe w'=>∃v d m' g',e= .returned v∧InvM P B w0 m' w' g'∧Ext w g w' g'∧EG ns m g m' g'∧Rep w' g' d v∧R d m':=by
 obtain⟨fn,code,h1,h2,h3,h4,h5,h6⟩:=hf.is;obtain⟨e,st',hev,hend,d,hd,hR⟩:=hwp;refine calls_of_wp h1 h2 ?_;rw[h4];have hst:Holds P B w0 N ns ⟨Br ds,m,0⟩ {tmps:=vs.toArray++Array.replicate (N-vs.toArray.size) undef,defers:=[]} w g:=by
  refine⟨hi,λt=>?_,by simp;omega,rfl,λk i _ hs=>hfresh k i hs⟩;simp only[Br];by_cases ht:t<ds.length
  ·have e1:ds.getD t .junk=ds[t]:=by simp[List.getD,ht]
   have e2:(vs.toArray++Array.replicate (N-vs.toArray.size) undef).getD t undef=vs[t]'(by omega):=by
    rw[Array.getD_eq_getD_getElem?,Array.getElem?_append_left (by simp;omega)];simp[hl,ht]
   rw[e1,e2];exact hrep t _ _ (Qe ht) (Qe _)
  ·have e1:ds.getD t .junk= .junk:=by simp[List.getD,Za (Nat.le_of_not_lt ht)]
   rw[e1];exact .junk _
 refine wp_mono (ev_sound hS code dc h5 _ e st' hev _ w g hst) ?_;rintro e' a' w' ⟨rfl,g',hh,hx,hk⟩;obtain⟨v,hv1,hv2⟩:=resOf_sound hh.inv hh.slots h6 hd;have hb:a'.defers=[]∧∃v,(results fn a'.tmps).run P w'= .ok v w'∧∃v' d m' g',Ending.returned v= .returned v'∧InvM P B w0 m' w' g'∧Ext w g w' g'∧EG ns m g m' g'∧Rep w' g' d v'∧R d m':=
  ⟨hh.defers,v,hv1,v,d,st'.m,g',rfl,hh.inv,hx,hk,hv2,hR⟩
 rcases hend with rfl|rfl
 ·exact hb
 ·exact hb
def Az(hS:Summs.ok P S)(hf:Fn P f N dc rs){F:List D->Option D}(hN:∀ds r,F ds=some r->ds.length<=N)
  (hF:∀ds r,F ds=some r->dc.wp S [] (DY rs λd _=>d.unR=r∧r.calmR=true) ⟨Br ds,λ_ _=>none,0⟩):(Ac F).ok P f:=by
 obtain⟨fn,code,h1,h2,h3,h4,h5,h6⟩:=hf.is;refine⟨⟨fn,h1,by rw[h2];rfl,h3⟩,λds m m' fr _=>rfl,?_⟩;intro B w0 w m g fr ds vs r u hi hfresh hl hrep hex;simp only[Ac]at hex;split at hex
 ·rename_i hcalm;rw[Qf]at hex;obtain⟨r',hr,hex⟩:=hex;simp only[Qj]at hex;obtain⟨rfl,rfl⟩:=hex
  let g0:Gh:={G:=g.G,G0:=g.G,dl:=λ_=>none,tb:=λ_=>none}
  have hi0:InvM P w.heap.size w (λ_ _=>none) w g0:=
   ⟨Below.refl _ _,Qs _,hi.gz,λ_ _=>rfl,λi b h=>by simp[g0]at h,λi i' b h=>by simp[g0]at h,λi o d h=>by simp at h,λi e h=>by simp at h,λi i' e e' b x x' h=>by simp at h,λi s p h=>by simp at h,λi i' s p s' p' b x x' h=>by simp at h⟩
  have hrep0:∀(j:Nat) d v,(ds.map D.un)[j]?=some d->vs[j]?=some v->Rep w g0 d v:=by
   intro j d v hd hv;have hc:=Qt.1 hcalm d (Qm hd);rw[QQ,Qf]at hd;obtain⟨d',hd',rfl⟩:=hd;exact(hrep j d' v hd' hv).un.calm_to hc (λ_ _=>rfl) (λ_=>Qs _)
  have hcalls:=F8 (B:=w.heap.size) (w0:=w) (w:=w) (g:=g0) (ns:=[]) (m:=λ_ _=>none) (ds:=ds.map D.un) (vs:=vs) hS hf (hN _ _ hr) hi0 (λk i _=>⟨λ_=>rfl,rfl,rfl⟩) (by simpa using hl) hrep0 (hF _ _ hr);refine hcalls.mono ?_;rintro e w' ⟨v,d,m',g',rfl,hinv,hext,_,hrd,rfl,hcr⟩;have hGeq:∀b,(g.glue w g'.G).G b=g'.G b:=by
   intro b;simp only[Gh.glue];split
   ·rename_i hlt;rw[hinv.old b hlt,hext.G0]
   ·rfl
  refine⟨v,g.glue w g'.G,rfl,hi.glue hinv.below hinv.gz,Ext.glue hi.gz hinv.below,?_,λi hf _=>hf⟩;exact hrd.unR.calmR_to hcr (λ_ _=>rfl) (λb=>by rw[hGeq];exact Qs _)
 ·cases hex
def opn_ok(hS:Summs.ok P S)(hf:Fn P f N dc rs){q:Summ}(hloc:∀ds m m' fr,(∀l∈q.rd ds m,m l.1 l.2=m' l.1 l.2)->q.ex ds m fr=q.ex ds m' fr)
  (hq:∀ds m fr r u,q.ex ds m fr=some (r,u)->(∀k i o,(k::fr)<:+i->m i o=none)->ds.length<=N∧dc.wp S fr (DY rs λd m'=>d=r∧∀i o x,Upd.app m u i o=some x->m' i o=some x) ⟨Br ds,m,0⟩):q.ok P f:=by
 obtain⟨fn,code,h1,h2,h3,h4,h5,h6⟩:=hf.is;refine⟨⟨fn,h1,by rw[h2];rfl,h3⟩,hloc,?_⟩;intro B w0 w m g fr ds vs r u hi hfresh hl hrep hex;have hfr:∀k i,(k::fr)<:+i->BR m g i:=λk i h=>hfresh i ((Qw k fr).trans h)
 obtain⟨hN,hwp⟩:=hq ds m fr r u hex (λk i o h=>(hfr k i h).1 o);have hcalls:=F8 (ns:=fr) hS hf hN hi hfr hl hrep hwp;refine hcalls.mono ?_;rintro e w' ⟨v,d,m',g',rfl,hinv,hext,hkeep,hrd,rfl,hle⟩;refine⟨v,g',rfl,hinv.less hle,hext,hrd,λi hf hn=>?_⟩;obtain⟨k1,k2,k3⟩:=hkeep i hf hn;refine⟨λo=>?_,k2,k3⟩;cases hx:Upd.app m u i o with
 |none=>rfl
 |some x=>exact absurd (k1 o) (by rw[hle i o x hx];simp)
end
inductive Tag.{u} {α:Sort u} (a:α):Type
 |mk
def Ao(p K:Prop)(_:Tag K):Prop:=p∧K
def ifQ(p A B:Prop)(_:Tag (A,B)):Prop:=(p->A)∧(¬p->B)
def Got{α:Type}(o:Option α)(K:α->Prop)(_:Tag K):Prop:=∃x,o=some x∧K x
def Ao.intro{p K:Prop}{t:Tag K}(h:p)(k:K):Ao p K t:=⟨h,k⟩
def ifQ.intro{p A B:Prop}{t:Tag (A,B)}(h:p->A)(k:¬p->B):ifQ p A B t:=⟨h,k⟩
def Got.intro{α:Type}{o:Option α}{K:α->Prop}{t:Tag K}{x:α}(h:o=some x)(k:K x):Got o K t:=⟨x,h,k⟩
def Need_true{K:Prop}{t:Tag K}:Ao True K t=K:=by simp[Ao]
def ifQ_true{A B:Prop}{t:Tag (A,B)}:ifQ True A B t=A:=by simp[ifQ]
def ifQ_false{A B:Prop}{t:Tag (A,B)}:ifQ False A B t=B:=by simp[ifQ]
def A5{α:Type}{x:α}{K:α->Prop}{t:Tag K}:Got (some x) K t=K x:=by simp[Got]
def AW{α:Type}{K:α->Prop}{t:Tag K}:Got none K t=False:=by simp[Got]
def CE{α β:Type}{o:Option α}{f:α->β}{K:β->Prop}{t:Tag K}:Got (o.map f) K t=Got o (λx=>K (f x)) .mk:=by
 cases o<;>simp[Got]
def Em{α:Type}{p:Prop}[Decidable p]{o:Option α}{K:α->Prop}{t:Tag K}:Got (if p then o else none) K t=Ao p (Got o K .mk) .mk:=by
 by_cases h:p<;>simp[Got,Ao,h]
def FB{α:Type}{p:Prop}[Decidable p]{x:α}{K:α->Prop}{t:Tag K}:Got (if p then some x else none) K t=Ao p (K x) .mk:=by
 by_cases h:p<;>simp[Got,Ao,h]
def Got_ite{α:Type}{p:Prop}[Decidable p]{o o':Option α}{K:α->Prop}{t:Tag K}:Got (if p then o else o') K t=ifQ p (Got o K .mk) (Got o' K .mk) .mk:=by
 by_cases h:p<;>simp[Got,ifQ,h]
def guardK:D->Bool->(A B:Prop)->Tag (A,B)->Prop
 | .bool b',b,A,B,_=>ifQ (b'=b) A B .mk
 | .tup [],_,_,B,_=>B
 |_,_,_,_,_=>False
def guardK_inv{d:D}{b:Bool}{A B:Prop}{t:Tag (A,B)}(h:guardK d b A B t):(∃b',d= .bool b'∧ifQ (b'=b) A B .mk)∨(d= .tup []∧B):=by
 cases d with
 |bool b'=>exact .inl ⟨b',rfl,h⟩
 |tup l=>cases l with
  |nil=>exact .inr ⟨rfl,h⟩
  |cons _ _=>exact h.elim
 |_=>exact h.elim
def guardK_tup{b:Bool}{A B:Prop}{t:Tag (A,B)}:guardK (.tup []) b A B t=B:=rfl
def guardK_bool{b' b:Bool}{A B:Prop}{t:Tag (A,B)}:guardK (.bool b') b A B t=ifQ (b'=b) A B .mk:=rfl
def Du(ops:List DOper)(j:Nat):Option Nat:=(ops[j]?).bind (·.dst)
def Gt(s:Nat->D):Option Nat->D
 |some t=>s t
 |none=> .junk
def CJ(s:Nat->D)(t:Nat):Gt s (some t)=s t:=rfl
def AI(S:Summs)(s:Nat->D)(m:Mem)(fr:Id)(op:DOp)(K:D->Upd->Prop):Prop:=Got (AB S s m fr op) (λx=>K x.1 x.2) .mk
def FP(S:Summs)(ns:Id)(c:Nat)(ops:List DOper):List DOper->Nat->(Nat->D)->Mem->(Nat->(Nat->D)->Mem->Prop)->Prop
 |[],k,s,m,K=>K k s m
 |⟨dst,op,_,none⟩::l,k,s,m,K=>AI S s m ((c+k)::ns) op λd u=>FP S ns c ops l (k+1) (BS s dst d) (Upd.app m u) K
 |⟨dst,op,_,some (j,b)⟩::l,k,s,m,K=>guardK (Gt s (Du ops j)) b
   (AI S s m ((c+k)::ns) op λd u=>FP S ns c ops l (k+1) (BS s dst d) (Upd.app m u) K)
   (FP S ns c ops l (k+1) (BS s dst (.tup [])) m K) .mk
section
variable{S:Summs}{ns:Id}
def EN{c:Nat}{ops:List DOper}{K:Nat->(Nat->D)->Mem->Prop}:∀(l:List DOper)(k:Nat)(s:Nat->D)(m:Mem),FP S ns c ops l k s m K->∃s' m',Eh S ns c ops l k s m=some (s',m')∧K (k+l.length) s' m'
 |[],k,s,m,h=>⟨s,m,rfl,h⟩
 |⟨dst,op,af,none⟩::l,k,s,m,h=>by
  simp only[FP,AI,Got]at h;obtain⟨⟨d,u⟩,he,h⟩:=h;obtain⟨s',m',h1,h2⟩:=EN l _ _ _ h;refine⟨s',m',?_,by rw[Qi,show k+(l.length+1)=k+1+l.length by omega];exact h2⟩;simp only[Eh,BG,Bo,he];exact h1
 |⟨dst,op,af,some (j,b)⟩::l,k,s,m,h=>by
  simp only[FP]at h;rcases guardK_inv h with ⟨b',e,h⟩|⟨e,h⟩
  rotate_left
  ·have hg:Bo ops s ⟨dst,op,af,some (j,b)⟩=some false:=by
    unfold Bo;simp only;unfold Du at e;cases ho:(ops[j]?).bind (·.dst)with
    |none=>rw[ho]at e;simp[Gt]at e
    |some t=>rw[ho,CJ]at e;simp only[e]
   obtain⟨s',m',h1,h2⟩:=EN l _ _ _ h;refine⟨s',m',?_,by rw[Qi,show k+(l.length+1)=k+1+l.length by omega];exact h2⟩;simp only[Eh,BG,hg];exact h1
  ·have hg:Bo ops s ⟨dst,op,af,some (j,b)⟩=some (b'==b):=by
    unfold Bo;simp only;unfold Du at e;cases ho:(ops[j]?).bind (·.dst)with
    |none=>rw[ho]at e;simp[Gt]at e
    |some t=>rw[ho,CJ]at e;simp only[e]
   by_cases hb:b'=b
   ·have h:=h.1 hb;simp only[AI,Got]at h;obtain⟨⟨d,u⟩,he,h⟩:=h;obtain⟨s',m',h1,h2⟩:=EN l _ _ _ h;refine⟨s',m',?_,by rw[Qi,show k+(l.length+1)=k+1+l.length by omega];exact h2⟩;simp only[Eh,BG,hg,hb,he,beq_self_eq_true];exact h1
   ·have h:=h.2 hb;obtain⟨s',m',h1,h2⟩:=EN l _ _ _ h;refine⟨s',m',?_,by rw[Qi,show k+(l.length+1)=k+1+l.length by omega];exact h2⟩;have:(b'==b)=false:=by simpa using hb
    simp only[Eh,BG,hg,this];exact h1
def CZ{c:Nat}{ops:List DOper}{K:Nat->(Nat->D)->Mem->Prop}:∀(l:List DOper)(k:Nat)(s:Nat->D)(m:Mem)(s':Nat->D)(m':Mem),Eh S ns c ops l k s m=some (s',m')->K (k+l.length) s' m'->FP S ns c ops l k s m K
 |[],k,s,m,s',m',h,hk=>by
  simp only[Eh,Qb,Qj]at h;obtain⟨rfl,rfl⟩:=h;exact hk
 |⟨dst,op,af,none⟩::l,k,s,m,s',m',h,hk=>by
  rw[Qi,show k+(l.length+1)=k+1+l.length by omega]at hk;simp only[Eh,BG,Bo]at h;simp only[FP,AI];cases he:AB S s m ((c+k)::ns) op with
  |none=>rw[he]at h;cases h
  |some x=>rw[he]at h;exact⟨x,rfl,CZ l _ _ _ _ _ h hk⟩
 |⟨dst,op,af,some (j,b)⟩::l,k,s,m,s',m',h,hk=>by
  rw[Qi,show k+(l.length+1)=k+1+l.length by omega]at hk;simp only[Eh,BG,Bo]at h;simp only[FP];unfold Du;cases ho:(ops[j]?).bind (·.dst)with
  |none=>rw[ho]at h;cases h
  |some t=>
   rw[ho]at h;rw[CJ];simp only at h;cases hd:s t with
   |bool b'=>
    rw[hd]at h;simp only at h;rw[guardK_bool];refine⟨λhb=>?_,λhb=>?_⟩
    ·subst hb;simp only[beq_self_eq_true]at h;cases he:AB S s m ((c+k)::ns) op with
     |none=>rw[he]at h;cases h
     |some x=>rw[he]at h;exact⟨x,he,CZ l _ _ _ _ _ h hk⟩
    ·have:(b'==b)=false:=by simpa using hb
     rw[this]at h;exact CZ l _ _ _ _ _ h hk
   |tup l0=>
    rw[hd]at h;cases l0 with
    |nil=>exact CZ l _ _ _ _ _ h hk
    |cons _ _=>cases h
   |_=>rw[hd]at h;cases h
def Cd(S:Summs)(ns:Id)(c:Nat)(ops:List DOper):List DOper->Nat->(Nat->D)->Mem->(Nat->(Nat->D)->Mem->List Foot->Prop)->Prop
 |[],k,s,m,K=>K k s m []
 |⟨dst,op,_,none⟩::l,k,s,m,K=>AI S s m ((c+k)::ns) op λd u=>Cd S ns c ops l (k+1) (BS s dst d) (Upd.app m u) λk' s' m' f=>K k' s' m' ((rds S s m op,AL u)::f)
 |⟨dst,op,_,some (j,b)⟩::l,k,s,m,K=>guardK (Gt s (Du ops j)) b
   (AI S s m ((c+k)::ns) op λd u=>Cd S ns c ops l (k+1) (BS s dst d) (Upd.app m u) λk' s' m' f=>K k' s' m' ((rds S s m op,AL u)::f))
   (Cd S ns c ops l (k+1) (BS s dst (.tup [])) m λk' s' m' f=>K k' s' m' ((rds S s m op,[])::f)) .mk
def DG{c:Nat}{ops:List DOper}:∀(l:List DOper)(k:Nat)(s:Nat->D)(m:Mem)(K:Nat->(Nat->D)->Mem->List Foot->Prop),Cd S ns c ops l k s m K->∃s' m' f,Cc S ns c ops l k s m=some (s',m',f)∧K (k+l.length) s' m' f
 |[],k,s,m,K,h=>⟨s,m,[],rfl,h⟩
 |⟨dst,op,af,none⟩::l,k,s,m,K,h=>by
  simp only[Cd,AI,Got]at h;obtain⟨⟨d,u⟩,he,h⟩:=h;obtain⟨s',m',f,h1,h2⟩:=DG l _ _ _ _ h;refine⟨s',m',_,?_,by rw[Qi,show k+(l.length+1)=k+1+l.length by omega];exact h2⟩;simp only[Cc,BG,Bo,he,h1]
 |⟨dst,op,af,some (j,b)⟩::l,k,s,m,K,h=>by
  simp only[Cd]at h;rcases guardK_inv h with ⟨b',e,h⟩|⟨e,h⟩
  rotate_left
  ·have hg:Bo ops s ⟨dst,op,af,some (j,b)⟩=some false:=by
    unfold Bo;simp only;unfold Du at e;cases ho:(ops[j]?).bind (·.dst)with
    |none=>rw[ho]at e;simp[Gt]at e
    |some t=>rw[ho,CJ]at e;simp only[e]
   obtain⟨s',m',f,h1,h2⟩:=DG l _ _ _ _ h;refine⟨s',m',_,?_,by rw[Qi,show k+(l.length+1)=k+1+l.length by omega];exact h2⟩;simp only[Cc,BG,hg,Upd.app,h1];simp[AL]
  ·have hg:Bo ops s ⟨dst,op,af,some (j,b)⟩=some (b'==b):=by
    unfold Bo;simp only;unfold Du at e;cases ho:(ops[j]?).bind (·.dst)with
    |none=>rw[ho]at e;simp[Gt]at e
    |some t=>rw[ho,CJ]at e;simp only[e]
   by_cases hb:b'=b
   ·have h:=h.1 hb;simp only[AI,Got]at h;obtain⟨⟨d,u⟩,he,h⟩:=h;obtain⟨s',m',f,h1,h2⟩:=DG l _ _ _ _ h;refine⟨s',m',_,?_,by rw[Qi,show k+(l.length+1)=k+1+l.length by omega];exact h2⟩;simp only[Cc,BG,hg,hb,he,beq_self_eq_true,h1]
   ·have h:=h.2 hb;obtain⟨s',m',f,h1,h2⟩:=DG l _ _ _ _ h;refine⟨s',m',_,?_,by rw[Qi,show k+(l.length+1)=k+1+l.length by omega];exact h2⟩;have:(b'==b)=false:=by simpa using hb
    simp only[Cc,BG,hg,this,Upd.app,h1];simp[AL]
def Cq{c:Nat}{ops:List DOper}:∀(l:List DOper)(k:Nat)(s:Nat->D)(m:Mem)(K:Nat->(Nat->D)->Mem->List Foot->Prop)(s':Nat->D)(m':Mem)(f:List Foot),Cc S ns c ops l k s m=some (s',m',f)->K (k+l.length) s' m' f->Cd S ns c ops l k s m K
 |[],k,s,m,K,s',m',f,h,hk=>by
  simp only[Cc,Qb,Qj]at h;obtain⟨rfl,rfl,rfl⟩:=h;exact hk
 |⟨dst,op,af,none⟩::l,k,s,m,K,s',m',f,h,hk=>by
  rw[Qi,show k+(l.length+1)=k+1+l.length by omega]at hk;simp only[Cc,BG,Bo]at h;simp only[Cd,AI];cases he:AB S s m ((c+k)::ns) op with
  |none=>rw[he]at h;cases h
  |some x=>
   rw[he]at h;obtain⟨d,u⟩:=x;simp only at h;split at h
   ·rename_i s1 m1 f1 e;simp only[Qb,Qj]at h;obtain⟨rfl,rfl,rfl⟩:=h;exact⟨_,rfl,Cq l _ _ _ _ _ _ _ e hk⟩
   ·cases h
 |⟨dst,op,af,some (j,b)⟩::l,k,s,m,K,s',m',f,h,hk=>by
  rw[Qi,show k+(l.length+1)=k+1+l.length by omega]at hk;simp only[Cc,BG,Bo]at h;simp only[Cd];unfold Du;cases ho:(ops[j]?).bind (·.dst)with
  |none=>rw[ho]at h;cases h
  |some t=>
   rw[ho]at h;rw[CJ];simp only at h;cases hd:s t with
   |bool b'=>
    rw[hd]at h;simp only at h;rw[guardK_bool];refine⟨λhb=>?_,λhb=>?_⟩
    ·subst hb;simp only[beq_self_eq_true]at h;cases he:AB S s m ((c+k)::ns) op with
     |none=>rw[he]at h;cases h
     |some x=>
      rw[he]at h;obtain⟨d,u⟩:=x;simp only at h;split at h
      ·rename_i s1 m1 f1 e;simp only[Qb,Qj]at h;obtain⟨rfl,rfl,rfl⟩:=h;exact⟨_,he,Cq l _ _ _ _ _ _ _ e hk⟩
      ·cases h
    ·have:(b'==b)=false:=by simpa using hb
     rw[this]at h;simp only[Upd.app]at h;split at h
     ·rename_i s1 m1 f1 e;simp only[Qb,Qj]at h;obtain⟨rfl,rfl,rfl⟩:=h;exact Cq l _ _ _ _ _ _ _ e hk
     ·cases h
   |tup l0=>
    rw[hd]at h;cases l0 with
    |nil=>
     simp only[Upd.app]at h;split at h
     ·rename_i s1 m1 f1 e;simp only[Qb,Qj]at h;obtain⟨rfl,rfl,rfl⟩:=h;exact Cq l _ _ _ _ _ _ _ e hk
     ·cases h
    |cons _ _=>cases h
   |_=>rw[hd]at h;cases h
def seqQ(S:Summs)(ns:Id)(b:DC)(Q:Ex->St->Prop):Ex->St->Prop
 | .normal,st=>b.wp S ns Q st
 |e,st=>Q e st
def blockQ(i:Nat)(Q:Ex->St->Prop):Ex->St->Prop
 | .exit j,st=>if j=i then Q .normal st else Q (.exit j) st
 |e,st=>Q e st
def condQ:D->(A B:Prop)->Tag (A,B)->Prop
 | .bool b,A,B,_=>ifQ (b=true) A B .mk
 |_,_,_,_=>False
def condQ_bool{b:Bool}{A B:Prop}{t:Tag (A,B)}:condQ (.bool b) A B t=ifQ (b=true) A B .mk:=rfl
variable{Q:Ex->St->Prop}{st:St}
def seqQ_normal{b:DC}:seqQ S ns b Q .normal st=b.wp S ns Q st:=rfl
def seqQ_ret{b:DC}:seqQ S ns b Q .ret st=Q .ret st:=rfl
def seqQ_exit{b:DC}{i:Nat}:seqQ S ns b Q (.exit i) st=Q (.exit i) st:=rfl
def blockQ_normal{i:Nat}:blockQ i Q .normal st=Q .normal st:=rfl
def blockQ_ret{i:Nat}:blockQ i Q .ret st=Q .ret st:=rfl
def Ei{i j:Nat}:blockQ i Q (.exit j) st=if j=i then Q .normal st else Q (.exit j) st:=rfl
def wp_skip':DC.skip.wp S ns Q st=Q .normal st:=by
 apply propext;exact⟨λ⟨e,st',⟨h1,h2⟩,h⟩=>by subst h1 h2;exact h,λh=>⟨_,_,⟨rfl,rfl⟩,h⟩⟩
def wp_ret':DC.ret.wp S ns Q st=Q .ret st:=by
 apply propext;exact⟨λ⟨e,st',⟨h1,h2⟩,h⟩=>by subst h1 h2;exact h,λh=>⟨_,_,⟨rfl,rfl⟩,h⟩⟩
def wp_exit'{i:Nat}:(DC.exit i).wp S ns Q st=Q (.exit i) st:=by
 apply propext;exact⟨λ⟨e,st',⟨h1,h2⟩,h⟩=>by subst h1 h2;exact h,λh=>⟨_,_,⟨rfl,rfl⟩,h⟩⟩
def wp_seq'{a b:DC}:(DC.seq a b).wp S ns Q st=a.wp S ns (seqQ S ns b Q) st:=by
 apply propext;constructor
 ·rintro⟨e,st',⟨e1,st1,h1,h2⟩,h⟩;refine⟨e1,st1,h1,?_⟩;rcases h2 with ⟨rfl,h2⟩|⟨hn,rfl,rfl⟩
  ·exact⟨e,st',h2,h⟩
  ·cases e with
   |normal=>exact absurd rfl hn
   |ret=>exact h
   |exit i=>exact h
 ·rintro⟨e1,st1,h1,h⟩;cases e1 with
  |normal=>obtain⟨e,st',h2,h⟩:=h;exact⟨e,st',⟨.normal,st1,h1,.inl ⟨rfl,h2⟩⟩,h⟩
  |ret=>exact⟨.ret,st1,⟨.ret,st1,h1,.inr ⟨by simp,rfl,rfl⟩⟩,h⟩
  |exit i=>exact⟨.exit i,st1,⟨.exit i,st1,h1,.inr ⟨by simp,rfl,rfl⟩⟩,h⟩
def wp_block'{i:Nat}{a:DC}(h:a.wp S ns (blockQ i Q) st):(DC.block i a).wp S ns Q st:=by
 obtain⟨e,st',h1,h⟩:=h;cases e with
 |normal=>exact⟨_,st',⟨.normal,h1,.inr ⟨by simp,rfl⟩⟩,h⟩
 |ret=>exact⟨_,st',⟨.ret,h1,.inr ⟨by simp,rfl⟩⟩,h⟩
 |exit j=>
  by_cases hj:j=i
  ·rw[Ei,if_pos hj]at h;exact⟨_,st',⟨.exit j,h1,.inl ⟨by rw[hj],rfl⟩⟩,h⟩
  ·rw[Ei,if_neg hj]at h;exact⟨_,st',⟨.exit j,h1,.inr ⟨by simp[hj],rfl⟩⟩,h⟩
def wp_cond'{c:Arg}{a b:DC}(h:condQ (c.ev st.s) (a.wp S ns Q st) (b.wp S ns Q st) .mk):(DC.cond c a b).wp S ns Q st:=by
 unfold condQ at h;split at h
 ·rename_i t e;cases t with
  |true=>obtain⟨e',st',h1,h2⟩:=h.1 rfl;exact⟨e',st',.inl ⟨e,h1⟩,h2⟩
  |false=>obtain⟨e',st',h1,h2⟩:=h.2 (by simp);exact⟨e',st',.inr ⟨e,h1⟩,h2⟩
 ·exact h.elim
def wp_row'{ops:List DOper}(h:FP S ns st.c ops ops 0 st.s st.m λk s m=>Q .normal ⟨s,m,st.c+k⟩):(DC.row ops).wp S ns Q st:=by
 obtain⟨s',m',h1,h2⟩:=EN _ _ _ _ h;rw[Qh]at h2;exact⟨.normal,_,⟨rfl,h1,rfl⟩,h2⟩
def wp_drawn'{ops:List DOper}{ps:List (Nat×Nat)}(h:Cd S ns st.c ops ops 0 st.s st.m λk s m f=>Ao (feetOk f ps) (Q .normal ⟨s,m,st.c+k⟩) .mk):(DC.drawn ops ps).wp S ns Q st:=by
 obtain⟨s',m',f,h1,h2⟩:=DG _ _ _ _ _ h;rw[Qh]at h2;exact⟨.normal,_,⟨rfl,⟨f,h1,h2.1⟩,rfl⟩,h2.2⟩
def wp_block_eq{i:Nat}{a:DC}:(DC.block i a).wp S ns Q st=a.wp S ns (blockQ i Q) st:=by
 refine propext ⟨?_,wp_block'⟩;rintro⟨e,st',⟨e1,h1,h2⟩,h⟩;refine⟨e1,st',h1,?_⟩;rcases h2 with ⟨rfl,rfl⟩|⟨hn,rfl⟩
 ·rw[Ei,if_pos rfl];exact h
 ·cases e with
  |normal=>exact h
  |ret=>exact h
  |exit j=>rw[Ei,if_neg (λx=>hn (by rw[x]))];exact h
def wp_cond_eq{c:Arg}{a b:DC}:(DC.cond c a b).wp S ns Q st=condQ (c.ev st.s) (a.wp S ns Q st) (b.wp S ns Q st) .mk:=by
 refine propext ⟨?_,wp_cond'⟩;rintro⟨e,st',h1,h2⟩;rcases h1 with ⟨h0,h1⟩|⟨h0,h1⟩
 ·rw[h0,condQ_bool];exact Qa (λ_=>⟨e,st',h1,h2⟩) (λx=>absurd rfl x)
 ·rw[h0,condQ_bool];exact Qa (λ(x:false=true)=>absurd x (by decide)) (λ_=>⟨e,st',h1,h2⟩)
def wp_row_eq{ops:List DOper}:(DC.row ops).wp S ns Q st=FP S ns st.c ops ops 0 st.s st.m λk s m=>Q .normal ⟨s,m,st.c+k⟩:=by
 refine propext ⟨?_,wp_row'⟩;rintro⟨e,⟨s',m',c'⟩,⟨rfl,h1,h2⟩,h3⟩;refine CZ _ _ _ _ _ _ h1 ?_;simp only at h2;rw[Qh,←h2];exact h3
def wp_drawn_eq{ops:List DOper}{ps:List (Nat×Nat)}:(DC.drawn ops ps).wp S ns Q st=Cd S ns st.c ops ops 0 st.s st.m λk s m f=>Ao (feetOk f ps) (Q .normal ⟨s,m,st.c+k⟩) .mk:=by
 refine propext ⟨?_,wp_drawn'⟩;rintro⟨e,⟨s',m',c'⟩,⟨rfl,⟨f,h1,hf⟩,h2⟩,h3⟩;refine Cq _ _ _ _ _ _ _ _ h1 ⟨hf,?_⟩;simp only at h2;rw[Qh,←h2];exact h3
def loopQ(S:Summs)(ns:Id)(c:DC)(Q:Ex->St->Prop):Ex->St->Prop
 | .normal,st=>(DC.loop c).wp S ns Q st
 |e,st=>Q e st
def A4(S:Summs)(ns:Id)(c:DC)(Q:Ex->St->Prop)(st:St)(_:Tag (S,ns,c,Q,st)):Prop:=(DC.loop c).wp S ns Q st
def wp_loop_eq{c:DC}:(DC.loop c).wp S ns Q st=A4 S ns c Q st .mk:=rfl
def loopQ_normal{c:DC}:loopQ S ns c Q .normal st=(DC.loop c).wp S ns Q st:=rfl
def loopQ_ret{c:DC}:loopQ S ns c Q .ret st=Q .ret st:=rfl
def loopQ_exit{c:DC}{i:Nat}:loopQ S ns c Q (.exit i) st=Q (.exit i) st:=rfl
def wp_loop'{c:DC}(h:c.wp S ns (loopQ S ns c Q) st):(DC.loop c).wp S ns Q st:=by
 obtain⟨e,st',h1,h⟩:=h;cases e with
 |normal=>obtain⟨e2,st2,⟨n,h2⟩,h⟩:=h;exact⟨e2,st2,⟨n+1,.more n _ _ _ _ h1 h2⟩,h⟩
 |ret=>exact⟨.ret,st',⟨0,.stop _ _ _ h1 (by simp)⟩,h⟩
 |exit i=>exact⟨.exit i,st',⟨0,.stop _ _ _ h1 (by simp)⟩,h⟩
def wp_mono'{dc:DC}{Q':Ex->St->Prop}(h:dc.wp S ns Q st)(hq:∀e st',Q e st'->Q' e st'):dc.wp S ns Q' st:=by
 obtain⟨e,st',h1,h2⟩:=h;exact⟨e,st',h1,hq _ _ h2⟩
end
def setS_some{s:Nat->D}{t t':Nat}{d:D}:BS s (some t) d t'=if t'=t then d else s t':=rfl
def setS_none{s:Nat->D}{d:D}:BS s none d=s:=rfl
def Arg.ev_t{s:Nat->D}{n:Nat}:(Arg.t n).ev s=s n:=rfl
def Arg.ev_c{s:Nat->D}{d:D}:(Arg.c d).ev s=d:=rfl
section
variable{S:Summs}{s:Nat->D}{m:Mem}{fr:Id}{K:D->Upd->Prop}
def x_mv{x:Arg}:AI S s m fr (.mv x) K=Got (some (x.ev s)) (λd=>K d []) .mk:=by simp[AI,AB,Got]
def pickK:D->D->D->(K:D->Upd->Prop)->Tag K->Prop
 | .bool t,a,b,K,_=>ifQ (t=true) (K a []) (K b []) .mk
 |_,_,_,_,_=>False
def pickK_bool{t:Bool}{a b:D}{g:Tag K}:pickK (.bool t) a b K g=ifQ (t=true) (K a []) (K b []) .mk:=rfl
def x_pick{c a b:Arg}:AI S s m fr (.pick c a b) K=pickK (c.ev s) (a.ev s) (b.ev s) K .mk:=by
 simp only[AI,AB];unfold pickK;cases c.ev s<;>simp only[AW];rename_i t;cases t<;>simp[Got,ifQ]
def x_alloc{zs:List D}:AI S s m fr (.alloc zs) K=Got (some fr) (λfr=>K (.ptr fr 0) [(fr,0,zs)]) .mk:=by simp[AI,AB,Got]
def x_box{x:Arg}:AI S s m fr (.box x) K=Got (some fr) (λfr=>Got (some (x.ev s)) (λd=>Ao (d.data=true) (K (.ptr fr 0) [(fr,0,d.cells)]) .mk) .mk) .mk:=by
 simp only[AI,AB];rw[Em,A5,A5,A5]
def x_build{zs:List D}{parts:List (Nat×Nat×Arg)}:AI S s m fr (.build zs parts) K=Got (BK zs (parts.map λp=>(p.1,p.2.1,p.2.2.ev s))) (λcs=>K (.agg cs) []) .mk:=by
 simp only[AI,AB];rw[CE]
def x_bslice{e sz:Nat}{parts:List Arg}:AI S s m fr (.bslice e sz parts) K=Got (some fr) (λfr=>Got (some (parts.map λp=>p.ev s)) (λds=>Ao ((ds.all λd=>d.data&&d.cells.length==sz&&d.un.calm)=true) (K (.slice false fr (ds.map D.un)) [(fr,0,[.tok (e+1)])]) .mk) .mk) .mk:=by
 simp only[AI,AB];rw[Em,A5,A5,A5,List.all_map,QI];rfl
def loadK:Option Nat->D->(m:Mem)->(K:D->Upd->Prop)->Tag (m,K)->Prop
 |none,.ptr i o,m,K,_=>Got (m i o) (λd=>K d []) .mk
 |some n,.ptr i o,m,K,_=>Got (Ag m i o n) (λds=>K (.agg ds) []) .mk
 |none,.eptr ds,m,K,_=>Got ds.head? (λd=>K d []) .mk
 |some n,.eptr ds,m,K,_=>Ao (n<=ds.length) (K (.agg (ds.take n)) []) .mk
 |_,_,_,_,_=>False
def loadK_ptr{i:Id}{o:Nat}{g:Tag (m,K)}:loadK none (.ptr i o) m K g=Got (m i o) (λd=>K d []) .mk:=rfl
def loadK_ptrs{i:Id}{o n:Nat}{g:Tag (m,K)}:loadK (some n) (.ptr i o) m K g=Got (Ag m i o n) (λds=>K (.agg ds) []) .mk:=rfl
def loadK_eptr{ds:List D}{g:Tag (m,K)}:loadK none (.eptr ds) m K g=Got ds.head? (λd=>K d []) .mk:=rfl
def loadK_eptrs{ds:List D}{n:Nat}{g:Tag (m,K)}:loadK (some n) (.eptr ds) m K g=Ao (n<=ds.length) (K (.agg (ds.take n)) []) .mk:=rfl
def x_load{k:Option Nat}{x:Arg}:AI S s m fr (.load k x) K=loadK k (x.ev s) m K .mk:=by
 simp only[AI,AB];unfold loadK;cases x.ev s<;>cases k<;>simp only[AW,CE,FB]
def storeK(n:Nat):D->D->(m:Mem)->(K:D->Upd->Prop)->Tag (m,K)->Prop
 | .ptr i o,d,m,K,_=>Ao (d.data=true∧d.cells.length=n∧(Ag m i o n).isSome=true) (K .junk [(i,o,d.cells)]) .mk
 |_,_,_,_,_=>False
def storeK_ptr{n:Nat}{i:Id}{o:Nat}{d:D}{g:Tag (m,K)}:storeK n (.ptr i o) d m K g=Ao (d.data=true∧d.cells.length=n∧(Ag m i o n).isSome=true) (K .junk [(i,o,d.cells)]) .mk:=rfl
def x_store{n:Nat}{x v:Arg}:AI S s m fr (.store n x v) K=storeK n (x.ev s) (v.ev s) m K .mk:=by
 simp only[AI,AB];unfold storeK;cases x.ev s<;>simp only[AW,FB]
def nilchkK:D->(K:D->Upd->Prop)->Tag K->Prop
 | .ptr i o,K,_=>K (.ptr i o) []
 | .eptr ds,K,_=>K (.eptr ds) []
 | .fn f cs,K,_=>K (.fn f cs) []
 |_,_,_=>False
def nilchkK_ptr{i:Id}{o:Nat}{g:Tag K}:nilchkK (.ptr i o) K g=K (.ptr i o) []:=rfl
def nilchkK_eptr{ds:List D}{g:Tag K}:nilchkK (.eptr ds) K g=K (.eptr ds) []:=rfl
def nilchkK_fn{f:FuncId}{cs:List D}{g:Tag K}:nilchkK (.fn f cs) K g=K (.fn f cs) []:=rfl
def x_nilchk{x:Arg}:AI S s m fr (.nilchk x) K=nilchkK (x.ev s) K .mk:=by
 simp only[AI,AB];unfold nilchkK;cases x.ev s<;>simp[AW,A5]
def rangeK(fr:Id):D->(K:D->Upd->Prop)->Tag K->Prop
 | .str b,K,_=>K (.itp fr) [(fr,1,[.it b 0])]
 |_,_,_=>False
def rangeK_str{b:List UInt8}{g:Tag K}:rangeK fr (.str b) K g=K (.itp fr) [(fr,1,[.it b 0])]:=rfl
def x_range{x:Arg}:AI S s m fr (.range x) K=rangeK fr (x.ev s) K .mk:=by
 simp only[AI,AB];unfold rangeK;cases x.ev s<;>simp[AW,A5]
def nextI(i:Id):D->(K:D->Upd->Prop)->Tag K->Prop
 | .it b pos,K,_=>ifQ (pos<b.length) (K (.tup [.bool true,.int .i64 (pos:Nat),.int .i32 (Utf8.decode ⟨b.toArray⟩ pos).1]) [(i,1,[.it b (pos+(Utf8.decode ⟨b.toArray⟩ pos).2)])]) (K (.tup [.bool false]) []) .mk
 |_,_,_=>False
def nextI_it{i:Id}{b:List UInt8}{pos:Nat}{g:Tag K}:nextI i (.it b pos) K g=ifQ (pos<b.length) (K (.tup [.bool true,.int .i64 (pos:Nat),.int .i32 (Utf8.decode ⟨b.toArray⟩ pos).1]) [(i,1,[.it b (pos+(Utf8.decode ⟨b.toArray⟩ pos).2)])]) (K (.tup [.bool false]) []) .mk:=rfl
def nextK:D->(m:Mem)->(K:D->Upd->Prop)->Tag (m,K)->Prop
 | .itp i,m,K,_=>Got (m i 1) (λx=>nextI i x K .mk) .mk
 |_,_,_,_=>False
def nextK_itp{i:Id}{g:Tag (m,K)}:nextK (.itp i) m K g=Got (m i 1) (λx=>nextI i x K .mk) .mk:=rfl
def x_next{x:Arg}:AI S s m fr (.next x) K=nextK (x.ev s) m K .mk:=by
 simp only[AI,AB];unfold nextK;cases x.ev s<;>try (simp only[AW];done)
 rename_i i;simp only;cases m i 1 with
 |none=>simp only[AW]
 |some d=>
  simp only[A5];unfold nextI;cases d<;>simp only[AW];rename_i b pos;rw[Got_ite,A5,A5]
def x_bin{op:BinOp}{x y:Arg}:AI S s m fr (.bin op x y) K=Got (A_ op (x.ev s) (y.ev s)) (λd=>K d []) .mk:=by simp only[AI,AB];rw[CE]
def x_un{op:UnOp}{x:Arg}:AI S s m fr (.un op x) K=Got (evUn op (x.ev s)) (λd=>K d []) .mk:=by simp only[AI,AB];rw[CE]
def beqV(ne:Bool):D->D->Option D
 | .bool a,.bool b=>some (.bool ((a==b)!=ne))
 |_,_=>none
def beqV_f{a b:Bool}:beqV false (.bool a) (.bool b)=some (.bool (decide (a=b))):=by cases a<;>cases b<;>rfl
def beqV_t{a b:Bool}:beqV true (.bool a) (.bool b)=some (.bool (decide (a≠b))):=by cases a<;>cases b<;>rfl
def x_beq{ne:Bool}{x y:Arg}:AI S s m fr (.beq ne x y) K=Got (beqV ne (x.ev s) (y.ev s)) (λd=>K d []) .mk:=by
 simp only[AI,AB];unfold beqV;cases x.ev s<;>cases y.ev s<;>simp[AW,A5]
def seqV(ne:Bool)(offs:List (Nat×Nat)):D->D->Option D
 | .agg xs,.agg ys=>(Bl xs ys offs).map λb=> .bool (b !=ne)
 |_,_=>none
def seqV_agg{ne:Bool}{offs:List (Nat×Nat)}{xs ys:List D}:seqV ne offs (.agg xs) (.agg ys)=(Bl xs ys offs).map λb=> .bool (b !=ne):=rfl
def x_seq{ne:Bool}{offs:List (Nat×Nat)}{x y:Arg}:AI S s m fr (.seq ne offs x y) K=Got (seqV ne offs (x.ev s) (y.ev s)) (λd=>K d []) .mk:=by
 simp only[AI,AB];unfold seqV;cases x.ev s<;>cases y.ev s<;>simp[AW,CE]
def x_nileq{ne:Bool}{k:Nat}{x y:Arg}:AI S s m fr (.nileq ne k x y) K=Got (nilEq k (x.ev s) (y.ev s)) (λb=>K (.bool (b !=ne)) []) .mk:=by simp only[AI,AB];rw[CE]
def convV(k:IntKind):D->Option D
 | .int _ n=>some (.int k (k.wrap n))
 |_=>none
def convV_int{k k':IntKind}{n:Int}:convV k (.int k' n)=some (.int k (k.wrap n)):=rfl
def x_conv{k:IntKind}{x:Arg}:AI S s m fr (.conv k x) K=Got (convV k (x.ev s)) (λd=>K d []) .mk:=by
 simp only[AI,AB];unfold convV;cases x.ev s<;>simp[AW,A5]
def s2sV:D->Option D
 | .str b=>some (.str b)
 |_=>none
def s2sV_str{b:List UInt8}:s2sV (.str b)=some (.str b):=rfl
def x_s2s{x:Arg}:AI S s m fr (.s2s x) K=Got (s2sV (x.ev s)) (λd=>K d []) .mk:=by
 simp only[AI,AB];unfold s2sV;cases x.ev s<;>simp[AW,A5]
def s2bV:D->Option D
 | .str b=>some (.slice false [] (Au b))
 |_=>none
def s2bV_str{b:List UInt8}:s2bV (.str b)=some (.slice false [] (Au b)):=rfl
def x_s2b{x:Arg}:AI S s m fr (.s2b x) K=Got (s2bV (x.ev s)) (λd=>K d []) .mk:=by
 simp only[AI,AB];unfold s2bV;cases x.ev s<;>simp[AW,A5]
def b2sV:D->Option D
 | .slice _ _ xs=>(BE xs).map .str
 |_=>none
def b2sV_slice{nl:Bool}{t:Id}{xs:List D}:b2sV (.slice nl t xs)=(BE xs).map .str:=rfl
def x_b2s{x:Arg}:AI S s m fr (.b2s x) K=Got (b2sV (x.ev s)) (λd=>K d []) .mk:=by
 simp only[AI,AB];unfold b2sV;cases x.ev s<;>simp[AW,CE]
def faddrV(off:Nat):D->Option D
 | .ptr i o=>some (.ptr i (o+off))
 | .eptr ds=>if off<=ds.length then some (.eptr (ds.drop off))else none
 |_=>none
def faddrV_ptr{off:Nat}{i:Id}{o:Nat}:faddrV off (.ptr i o)=some (.ptr i (o+off)):=rfl
def faddrV_eptr{off:Nat}{ds:List D}:faddrV off (.eptr ds)=if off<=ds.length then some (.eptr (ds.drop off))else none:=rfl
def x_faddr{off:Nat}{x:Arg}:AI S s m fr (.faddr off x) K=Got (faddrV off (x.ev s)) (λd=>K d []) .mk:=by
 simp only[AI,AB];unfold faddrV;cases x.ev s<;>simp only[AW,FB,A5]
def fieldV(off:Nat):Option Nat->D->Option D
 |none,.agg cs=>cs[off]?
 |some n,.agg cs=>if off+n<=cs.length then some (.agg ((cs.drop off).take n))else none
 |_,_=>none
def fieldV_leaf{off:Nat}{cs:List D}:fieldV off none (.agg cs)=cs[off]?:=rfl
def fieldV_agg{off n:Nat}{cs:List D}:fieldV off (some n) (.agg cs)=if off+n<=cs.length then some (.agg ((cs.drop off).take n))else none:=rfl
def x_field{k:Option Nat}{off:Nat}{x:Arg}:AI S s m fr (.field k off x) K=Got (fieldV off k (x.ev s)) (λd=>K d []) .mk:=by
 simp only[AI,AB];unfold fieldV;cases x.ev s<;>cases k<;>simp only[AW,CE,FB]
def iaddrK(sz:Nat):D->D->(K:D->Upd->Prop)->Tag K->Prop
 | .slice _ _ xs,.int _ n,K,_=>Ao (0<=n) (Got xs[n.toNat]? (λd=>Ao (d.cells.length=sz) (K (.eptr d.cells) []) .mk) .mk) .mk
 | .row i l,.int _ n,K,_=>Ao (0<=n∧n<(l:Int)) (K (.ptr i (if sz=1 then n.toNat else n.toNat*sz)) []) .mk
 |_,_,_,_=>False
def iaddrK_row{sz l:Nat}{i:Id}{k:IntKind}{n:Int}{g:Tag K}:iaddrK sz (.row i l) (.int k n) K g=Ao (0<=n∧n<(l:Int)) (K (.ptr i (if sz=1 then n.toNat else n.toNat*sz)) []) .mk:=rfl
def iaddrK_slice{sz:Nat}{nl:Bool}{t:Id}{xs:List D}{k:IntKind}{n:Int}{g:Tag K}:iaddrK sz (.slice nl t xs) (.int k n) K g=Ao (0<=n) (Got xs[n.toNat]? (λd=>Ao (d.cells.length=sz) (K (.eptr d.cells) []) .mk) .mk) .mk:=rfl
def x_iaddr{sz:Nat}{x i:Arg}:AI S s m fr (.iaddr sz x i) K=iaddrK sz (x.ev s) (i.ev s) K .mk:=by
 simp only[AI,AB];unfold iaddrK;cases x.ev s<;>cases i.ev s<;>first|(simp only[AW];done)|(simp only[FB,Ao];done)|skip
 rename_i nl t xs k n;rw[Em];simp only[Ao];congr 1;cases xs[n.toNat]? with
 |none=>simp only[AW]
 |some d=>simp only[A5,FB,Ao]
def idxsK:D->D->(K:D->Upd->Prop)->Tag K->Prop
 | .str b,.int _ n,K,_=>Ao (0<=n) (Got b[n.toNat]? (λc=>K (.int .u8 (c.toNat:Int)) []) .mk) .mk
 |_,_,_,_=>False
def idxsK_str{b:List UInt8}{k:IntKind}{n:Int}{g:Tag K}:idxsK (.str b) (.int k n) K g=Ao (0<=n) (Got b[n.toNat]? (λc=>K (.int .u8 (c.toNat:Int)) []) .mk) .mk:=rfl
def x_idxs{x i:Arg}:AI S s m fr (.idxs x i) K=idxsK (x.ev s) (i.ev s) K .mk:=by
 simp only[AI,AB];unfold idxsK;cases x.ev s<;>cases i.ev s<;>try simp only[AW]
 rw[Em,CE]
def iaddaK(len sz:Nat):D->D->(K:D->Upd->Prop)->Tag K->Prop
 | .ptr j o,.int _ n,K,_=>Ao (0<=n∧n<(len:Int)) (K (.ptr j (o+n.toNat*sz)) []) .mk
 |_,_,_,_=>False
def iaddaK_ptr{len sz o:Nat}{j:Id}{k:IntKind}{n:Int}{g:Tag K}:iaddaK len sz (.ptr j o) (.int k n) K g=Ao (0<=n∧n<(len:Int)) (K (.ptr j (o+n.toNat*sz)) []) .mk:=rfl
def x_iadda{len sz:Nat}{x i:Arg}:AI S s m fr (.iadda len sz x i) K=iaddaK len sz (x.ev s) (i.ev s) K .mk:=by
 simp only[AI,AB];unfold iaddaK;cases x.ev s<;>cases i.ev s<;>try simp only[AW]
 rw[FB,Ao]
def idxmK(len sz:Nat):D->D->(K:D->Upd->Prop)->Tag K->Prop
 | .agg cs,.int _ n,K,_=>Ao (0<=n∧n<(len:Int)∧n.toNat*sz+sz<=cs.length) (K (.agg ((cs.drop (n.toNat*sz)).take sz)) []) .mk
 |_,_,_,_=>False
def idxmK_agg{len sz:Nat}{cs:List D}{k:IntKind}{n:Int}{g:Tag K}:idxmK len sz (.agg cs) (.int k n) K g=Ao (0<=n∧n<(len:Int)∧n.toNat*sz+sz<=cs.length) (K (.agg ((cs.drop (n.toNat*sz)).take sz)) []) .mk:=rfl
def x_idxm{len sz:Nat}{x i:Arg}:AI S s m fr (.idxm len sz x i) K=idxmK len sz (x.ev s) (i.ev s) K .mk:=by
 simp only[AI,AB];unfold idxmK;cases x.ev s<;>cases i.ev s<;>try simp only[AW]
 rw[FB,Ao]
def idxaK(len:Nat):D->D->(K:D->Upd->Prop)->Tag K->Prop
 | .agg cs,.int _ n,K,_=>Ao (0<=n∧n<(len:Int)) (Got cs[n.toNat]? (λd=>K d []) .mk) .mk
 |_,_,_,_=>False
def idxaK_agg{len:Nat}{cs:List D}{k:IntKind}{n:Int}{g:Tag K}:idxaK len (.agg cs) (.int k n) K g=Ao (0<=n∧n<(len:Int)) (Got cs[n.toNat]? (λd=>K d []) .mk) .mk:=rfl
def x_idxa{len:Nat}{x i:Arg}:AI S s m fr (.idxa len x i) K=idxaK len (x.ev s) (i.ev s) K .mk:=by
 simp only[AI,AB];unfold idxaK;cases x.ev s<;>cases i.ev s<;>try simp only[AW]
 rw[Em,CE]
def mxmV(mx:Bool):D->D->Option D
 | .int k a,.int _ b=>some (.int k (if mx=true then max a b else min a b))
 |_,_=>none
def mxmV_t{k k':IntKind}{a b:Int}:mxmV true (.int k a) (.int k' b)=some (.int k (max a b)):=rfl
def mxmV_f{k k':IntKind}{a b:Int}:mxmV false (.int k a) (.int k' b)=some (.int k (min a b)):=rfl
def x_mxm{mx:Bool}{x y:Arg}:AI S s m fr (.mxm mx x y) K=Got (mxmV mx (x.ev s) (y.ev s)) (λd=>K d []) .mk:=by
 simp only[AI,AB];unfold mxmV;cases x.ev s<;>cases y.ev s<;>simp[AW,A5]
def CY(dflt most:Nat):Option D->Option Nat
 |none=>some dflt
 |some (.int _ n)=>if 0<=n∧n<=most then some n.toNat else none
 |some _=>none
def optEv(s:Nat->D):Option Arg->Option D
 |none=>none
 |some a=>some (a.ev s)
def optEv_none:optEv s none=none:=rfl
def optEv_some{a:Arg}:optEv s (some a)=some (a.ev s):=rfl
def boundV_none{a b:Nat}:CY a b none=some a:=rfl
def boundV_int{a b:Nat}{k:IntKind}{n:Int}:CY a b (some (.int k n))=if 0<=n∧n<=b then some n.toNat else none:=rfl
def bound_eq{x:Option Arg}{a b:Nat}:Fw s x a b=CY a b (optEv s x):=by
 cases x with
 |none=>rfl
 |some x=>simp only[Fw,optEv,CY];cases x.ev s<;>rfl
def cutsK:D->Option D->Option D->(K:D->Upd->Prop)->Tag K->Prop
 | .str b,lo,hi,K,_=>Got (CY b.length b.length hi) (λh=>Got (CY 0 h lo) (λl=>K (.str ((b.drop l).take (h-l))) []) .mk) .mk
 |_,_,_,_,_=>False
def cutsK_str{b:List UInt8}{lo hi:Option D}{g:Tag K}:cutsK (.str b) lo hi K g=Got (CY b.length b.length hi) (λh=>Got (CY 0 h lo) (λl=>K (.str ((b.drop l).take (h-l))) []) .mk) .mk:=rfl
def x_cuts{x:Arg}{lo hi:Option Arg}:AI S s m fr (.cuts x lo hi) K=cutsK (x.ev s) (optEv s lo) (optEv s hi) K .mk:=by
 simp only[AI,AB];unfold cutsK;cases x.ev s<;>simp only[AW,bound_eq];rename_i b;cases CY b.length b.length (optEv s hi)with
 |none=>simp only[AW]
 |some h=>
  simp only[A5];cases CY 0 h (optEv s lo)with
  |none=>simp only[AW]
  |some l=>simp only[A5]
def cutlK(sz:Nat):D->Option D->Option D->(K:D->Upd->Prop)->Tag K->Prop
 | .slice nl _ xs,lo,hi,K,_=>Ao (D.headSz xs sz=sz) (Got (CY xs.length xs.length hi) (λh=>Got (CY 0 h lo) (λl=>K (.slice nl [] ((xs.drop l).take (h-l))) []) .mk) .mk) .mk
 |_,_,_,_,_=>False
def cutlK_slice{sz:Nat}{nl:Bool}{t:Id}{xs:List D}{lo hi:Option D}{g:Tag K}:cutlK sz (.slice nl t xs) lo hi K g=Ao (D.headSz xs sz=sz) (Got (CY xs.length xs.length hi) (λh=>Got (CY 0 h lo) (λl=>K (.slice nl [] ((xs.drop l).take (h-l))) []) .mk) .mk) .mk:=rfl
def x_cutl{sz:Nat}{x:Arg}{lo hi:Option Arg}:AI S s m fr (.cutl sz x lo hi) K=cutlK sz (x.ev s) (optEv s lo) (optEv s hi) K .mk:=by
 simp only[AI,AB];unfold cutlK;cases x.ev s<;>simp only[AW,bound_eq];rename_i nl t xs;rw[Em];cases CY xs.length xs.length (optEv s hi)with
 |none=>simp[Got,Ao]
 |some h=>
  simp only;cases h1:CY 0 h (optEv s lo)with
  |none=>simp[Got,Ao,h1]
  |some l=>simp[Got,Ao,h1]
def x_mkif{t:TypeId}{x:Arg}:AI S s m fr (.mkif t x) K=Ao ((x.ev s).data=true∧(x.ev s).un.calm=true) (K (.iface t (x.ev s).un) []) .mk:=by
 simp only[AI,AB];rw[Em,A5]
def extV(i:Nat):D->Option D
 | .tup vs=>vs[i]?
 |_=>none
def extV_tup{i:Nat}{vs:List D}:extV i (.tup vs)=vs[i]?:=rfl
def x_ext{i:Nat}{x:Arg}:AI S s m fr (.ext i x) K=Got (extV i (x.ev s)) (λd=>K d []) .mk:=by
 simp only[AI,AB];unfold extV;cases x.ev s<;>simp[AW,CE]
def x_mkfn{f:FuncId}{caps:List Arg}:AI S s m fr (.mkfn f caps) K=K (.fn f (caps.map (·.ev s))) []:=by simp[AI,AB,Got]
def x_len{b:Bool}{x:Arg}:AI S s m fr (.len b x) K=Got (lenD b (x.ev s)) (λn=>K (.int .i64 (n:Int)) []) .mk:=by simp only[AI,AB];rw[CE]
def lenD_str{b:List UInt8}:lenD true (.str b)=some b.length:=rfl
def lenD_slice{nl:Bool}{t:Id}{xs:List D}:lenD false (.slice nl t xs)=some xs.length:=rfl
def lenD_row{i:Id}{n:Nat}:lenD false (.row i n)=some n:=rfl
def Grow(m:Mem)(e:Nat):D->Prop
 | .slice nl t _=>nl=true∨(m t 0=some (.tok (e+1))∧t≠[])
 |_=>False
def Bi(e:Nat)(fr:Id):D->Upd
 | .slice true _ _=>[(fr,0,[.tok (e+1)])]
 | .slice false t _=>[(t,0,[.tok 0]),(fr,0,[.tok (e+1)])]
 |_=>[]
def appK(e sz bytes:Nat)(fr:Id):D->Option (List D)->(m:Mem)->(K:D->Upd->Prop)->Tag (m,K)->Prop
 | .slice nl t xs,some ys,m,K,_=>ifQ (nl=true∧ys=[]) (K (.slice true [] []) [])
   (Ao ((xs.length+ys.length)*(bytes+1)<=140737488355328∧D.headSz ys sz=sz∧Grow m e (.slice nl t xs)) (K (.slice false fr (if nl=true then ys else xs++ys)) (Bi e fr (.slice nl t xs))) .mk) .mk
 |_,_,_,_,_=>False
def appSrc_slice{sz:Nat}{nl:Bool}{t:Id}{ys:List D}:appSrc sz (.slice nl t ys)=some ys:=rfl
def appSrc_str{sz:Nat}{b:List UInt8}:appSrc sz (.str b)=if sz=1 then some (Au b)else none:=rfl
def appK_slice{e sz bytes:Nat}{nl:Bool}{t:Id}{xs ys:List D}{g:Tag (m,K)}:appK e sz bytes fr (.slice nl t xs) (some ys) m K g=ifQ (nl=true∧ys=[]) (K (.slice true [] []) [])
   (Ao ((xs.length+ys.length)*(bytes+1)<=140737488355328∧D.headSz ys sz=sz∧Grow m e (.slice nl t xs)) (K (.slice false fr (if nl=true then ys else xs++ys)) (Bi e fr (.slice nl t xs))) .mk) .mk:=rfl
def BH{nl:Bool}{xs ys:List D}(h:nl=true->xs=[]):(if nl=true then ys else xs++ys)=xs++ys:=by
 split
 ·rename_i e;rw[h e];rfl
 ·rfl
def x_app{e sz bytes:Nat}{x y:Arg}:AI S s m fr (.app e sz bytes x y) K=appK e sz bytes fr (x.ev s) (appSrc sz (y.ev s)) m K .mk:=by
 simp only[AI,AB];unfold appK;cases x.ev s<;>cases appSrc sz (y.ev s)<;>simp only[AW];rename_i nl t xs ys;by_cases h1:nl=true∧ys=[]
 ·rw[if_pos h1,A5];simp[ifQ,h1]
 ·rw[if_neg h1];have e1:∀A B:Prop,ifQ (nl=true∧ys=[]) A B .mk=B:=λA B=>by simp[ifQ,h1]
  rw[e1,Em];cases nl with
  |true=>simp[Got,Ao,Bi,Grow,and_assoc]
  |false=>
   simp only[QF,Grow,Bi,false_or];cases hm:m t 0 with
   |none=>simp[Got,Ao]
   |some d=>
    cases d with
    |tok k=>
     by_cases hk:k=e+1∧t≠[]
     ·obtain⟨rfl,hk⟩:=hk;simp[Got,Ao,hk,and_assoc]
     ·have hk':¬(k=e+1∧¬t=[]):=hk;have hk2:∀A:Prop,k=e+1->¬t=[]->A:=λA h1 h2=>absurd ⟨h1,h2⟩ hk'
      simp only[Got,Ao,if_neg hk];simp;intro _ _ h1 h2;exact hk2 _ h1 h2
    |_=>simp[Got,Ao]
def mkslK(e sz bytes:Nat)(z:D)(fr:Id):D->D->(K:D->Upd->Prop)->Tag K->Prop
 | .int _ n,.int _ c,K,_=>Ao (0<=n∧n<=c∧c*(bytes+1)<=140737488355328∧z.cells.length=sz) (if z.isRw=true then Ao (n=c) (K (.row fr n.toNat) [(fr,0,QR n.toNat z)]) .mk else K (.slice false fr (QR n.toNat z)) [(fr,0,[.tok (e+1)])]) .mk
 |_,_,_,_=>False
def mkslK_int{e sz bytes:Nat}{z:D}{k k':IntKind}{n c:Int}{g:Tag K}:mkslK e sz bytes z fr (.int k n) (.int k' c) K g=Ao (0<=n∧n<=c∧c*(bytes+1)<=140737488355328∧z.cells.length=sz) (if z.isRw=true then Ao (n=c) (K (.row fr n.toNat) [(fr,0,QR n.toNat z)]) .mk else K (.slice false fr (QR n.toNat z)) [(fr,0,[.tok (e+1)])]) .mk:=rfl
def isNI_ni:D.isRw .nilIface=true:=rfl
def isNI_int{k:IntKind}{n:Int}:D.isRw (.int k n)=false:=rfl
def isNI_str:D.isRw (.str [])=true:=rfl
def isNI_bool{b:Bool}:D.isRw (.bool b)=false:=rfl
def isNI_slice{nl:Bool}{t:Id}{xs:List D}:D.isRw (.slice nl t xs)=false:=rfl
def isNI_agg{xs:List D}:D.isRw (.agg xs)=false:=rfl
def x_mksl{e sz bytes:Nat}{z:D}{n c:Arg}:AI S s m fr (.mksl e sz bytes z n c) K=mkslK e sz bytes z fr (n.ev s) (c.ev s) K .mk:=by
 simp only[AI,AB];unfold mkslK;cases n.ev s<;>cases c.ev s<;>first|(simp only[AW];done)|skip
 by_cases hz:z.isRw=true
 ·simp only[hz,if_true,Em,A5,Ao]
 ·simp only[hz,QF,if_false,Em,A5,Ao]
def callK(S:Summs):D->List D->(m:Mem)->Id->(K:D->Upd->Prop)->Tag (m,K)->Prop
 | .fn f caps,ds,m,fr,K,_=>Got (S f) (λq=>Got (q.ex (ds++caps) m fr) (λx=>K x.1 x.2) .mk) .mk
 |_,_,_,_,_,_=>False
def x_call{f:Arg}{xs:List Arg}:AI S s m fr (.call f xs) K=callK S (f.ev s) (xs.map (·.ev s)) m fr K .mk:=by
 simp only[AI,AB];unfold callK;cases f.ev s<;>simp only[AW];rename_i f caps;cases S f with
 |none=>simp only[AW]
 |some q=>simp only[A5]
def Ah{f:FuncId}{caps ds:List D}{q:Summ}{g:Tag (m,K)}(h:S f=some q):callK S (.fn f caps) ds m fr K g=Got (q.ex (ds++caps) m fr) (λx=>K x.1 x.2) .mk:=by
 simp only[callK,h,A5]
def Aa{f:FuncId}{caps ds:List D}{F:List D->Option D}{g:Tag (m,K)}(h:S f=some (Ac F)):callK S (.fn f caps) ds m fr K g=Ao (((ds++caps).map D.un).all D.calm=true) (Got (F ((ds++caps).map D.un)) (λr=>K r []) .mk) .mk:=by
 rw[Ah h];simp only[Ac,Em,Ao];rw[CE]
def An(S:Summs)(f:FuncId){F:List D->Option D}(h:S f=some (Ac F):=by exact rfl){caps ds:List D}{g:Tag (m,K)}:callK S (.fn f caps) ds m fr K g=Ao (((ds++caps).map D.un).all D.calm=true) (Got (F ((ds++caps).map D.un)) (λr=>K r []) .mk) .mk:=Aa h
end
def Ae{S:Summs}{ns:Id}{c body:DC}{Q:Ex->St->Prop}{st:St}{t:Tag (S,ns,c,Q,st)}(h:c=body)(k:body.wp S ns (loopQ S ns c Q) st):A4 S ns c Q st t:=wp_loop' (h▸k)
section
variable{k:IntKind}{a b:Int}
def v_add:A_ .add (.int k a) (.int k b)=some (.int k (k.wrap (a+b))):=by simp[A_]
def v_sub:A_ .sub (.int k a) (.int k b)=some (.int k (k.wrap (a-b))):=by simp[A_]
def v_mul:A_ .mul (.int k a) (.int k b)=some (.int k (k.wrap (a*b))):=by simp[A_]
def v_quo:A_ .quo (.int k a) (.int k b)=if b≠0 then some (.int k (k.wrap (a.tdiv b)))else none:=by by_cases h:b=0<;>simp[A_,h]
def v_rem:A_ .rem (.int k a) (.int k b)=if b≠0 then some (.int k (a.tmod b))else none:=by by_cases h:b=0<;>simp[A_,h]
def v_and:A_ .and (.int k a) (.int k b)=some (.int k (bits .and k a b)):=by simp[A_]
def v_or:A_ .or (.int k a) (.int k b)=some (.int k (bits .or k a b)):=by simp[A_]
def v_xor:A_ .xor (.int k a) (.int k b)=some (.int k (bits .xor k a b)):=by simp[A_]
def v_eql:A_ .eql (.int k a) (.int k b)=some (.bool (decide (a=b))):=by simp[A_];rfl
def v_neq:A_ .neq (.int k a) (.int k b)=some (.bool (decide (¬a=b))):=by simp[A_];rfl
def v_lss:A_ .lss (.int k a) (.int k b)=some (.bool (decide (a<b))):=by simp[A_]
def v_leq:A_ .leq (.int k a) (.int k b)=some (.bool (decide (a<=b))):=by simp[A_]
def v_gtr:A_ .gtr (.int k a) (.int k b)=some (.bool (decide (b<a))):=by simp[A_]
def v_geq:A_ .geq (.int k a) (.int k b)=some (.bool (decide (b<=a))):=by simp[A_]
def v_shl{k':IntKind}:A_ .shl (.int k a) (.int k' b)=if 0<=b then some (.int k (k.wrap (a*2 ^ min b.toNat k.bits)))else none:=by simp[A_]
def v_shr{k':IntKind}:A_ .shr (.int k a) (.int k' b)=if 0<=b then some (.int k (a.fdiv (2 ^ min b.toNat k.bits)))else none:=by simp[A_]
variable{x y:List UInt8}
def v_cat:A_ .add (.str x) (.str y)=if x.length+y.length<=9223372036854775807 then some (.str (x++y))else none:=by simp[A_]
def v_seql:A_ .eql (.str x) (.str y)=some (.bool (decide (x=y))):=by
 simp only[A_,Qb,D.bool.injEq];by_cases h:x=y<;>simp[h]
def v_sneq:A_ .neq (.str x) (.str y)=some (.bool (decide (¬x=y))):=by
 simp only[A_,Qb,D.bool.injEq];by_cases h:x=y<;>simp[h]
def v_not{p:Bool}:evUn .not (.bool p)=some (.bool (!p)):=rfl
def v_neg:evUn .neg (.int k a)=some (.int k (k.wrap (0-a))):=rfl
end
def not_dec{p:Prop}[Decidable p]:(!decide p)=decide (¬p):=by by_cases h:p<;>simp[h]
def dec_true{p:Prop}[Decidable p]:(decide p=true)=p:=by simp
def dec_false{p:Prop}[Decidable p]:(decide p=false)=¬p:=by simp
def ff_t:(false=true)=False:=by simp
def tt_f:(true=false)=False:=by simp
def ifQ_not{p A B:Prop}{t:Tag (A,B)}:ifQ (¬p) A B t=ifQ p B A .mk:=by
 unfold ifQ;by_cases h:p<;>simp[h]
def slot_zero{o:DOper}{l:List DOper}:Du (o::l) 0=o.dst:=rfl
def slot_succ{o:DOper}{l:List DOper}{j:Nat}:Du (o::l) (j+1)=Du l j:=by simp[Du]
def app_nil{m:Mem}:Upd.app m []=m:=rfl
def app_cons{m:Mem}{i:Id}{o:Nat}{ds:List D}{u:Upd}:Upd.app m ((i,o,ds)::u)=Upd.app (m.put i o ds) u:=rfl
def unbytes_nil:BE []=some []:=rfl
def unbytes_cons{n:Int}{r:List D}:BE (.int .u8 n::r)=(BE r).map (UInt8.ofNat n.toNat::·):=rfl
def opt_map_some{α β:Type}{f:α->β}{x:α}:(some x).map f=some (f x):=rfl
def ends_normal{rs:List RV}{R:D->Mem->Prop}{st:St}:DY rs R .normal st=Got (BY rs st.s st.m) (λd=>R d st.m) .mk:=by
 simp[DY,Got]
def ends_ret{rs:List RV}{R:D->Mem->Prop}{st:St}:DY rs R .ret st=Got (BY rs st.s st.m) (λd=>R d st.m) .mk:=by
 simp[DY,Got]
def ends_exit{rs:List RV}{R:D->Mem->Prop}{st:St}{i:Nat}:DY rs R (.exit i) st=False:=by
 simp[DY]
def res_one{s:Nat->D}{m:Mem}{t:Nat}:BY [.t t] s m=some (s t):=rfl
def res_two{s:Nat->D}{m:Mem}{t t':Nat}:BY [.t t,.t t'] s m=some (.tup [s t,s t']):=rfl
def res_three{s:Nat->D}{m:Mem}{t t' t'':Nat}:BY [.t t,.t t',.t t''] s m=some (.tup [s t,s t',s t'']):=rfl
def res_zero{s:Nat->D}{m:Mem}:BY [] s m=some (.tup []):=rfl
def entry_zero{d:D}{ds:List D}:Br (d::ds) 0=d:=rfl
def entry_succ{d:D}{ds:List D}{t:Nat}:Br (d::ds) (t+1)=Br ds t:=rfl
def entry_nil{t:Nat}:Br [] t= .junk:=rfl
def rowU(S:Summs)(ns:Id)(c:Nat)(ops l:List DOper)(k:Nat)(s:Nat->D)(dst:Option Nat)(m:Mem)(K:Nat->(Nat->D)->Mem->Prop)(d:D)(u:Upd):Prop:=FP S ns c ops l k (BS s dst d) (Upd.app m u) K
def drawnU(S:Summs)(ns:Id)(c:Nat)(ops l:List DOper)(k:Nat)(s:Nat->D)(dst:Option Nat)(m:Mem)(op:DOp)(K:Nat->(Nat->D)->Mem->List Foot->Prop)(d:D)(u:Upd):Prop:=
 Cd S ns c ops l k (BS s dst d) (Upd.app m u) λk' s' m' f=>K k' s' m' ((rds S s m op,AL u)::f)
section
variable{S:Summs}{ns:Id}{c k:Nat}{ops l:List DOper}{s:Nat->D}{m:Mem}{dst:Option Nat}{op:DOp}{af:List Nat}{j:Nat}{b:Bool}{d:D}{i:Id}{o e:Nat}{fr:Id}{ds:List D}{u:Upd}
section
variable{K:Nat->(Nat->D)->Mem->Prop}
def row_nil:FP S ns c ops [] k s m K=K k s m:=rfl
def row_one:FP S ns c ops (⟨dst,op,af,none⟩::l) k s m K=AI S s m ((c+k)::ns) op (rowU S ns c ops l (k+1) s dst m K):=rfl
def row_if:FP S ns c ops (⟨dst,op,af,some (j,b)⟩::l) k s m K=guardK (Gt s (Du ops j)) b
   (AI S s m ((c+k)::ns) op (rowU S ns c ops l (k+1) s dst m K)) (FP S ns c ops l (k+1) (BS s dst (.tup [])) m K) .mk:=rfl
def rowU_nil:rowU S ns c ops l k s dst m K d []=FP S ns c ops l k (BS s dst d) m K:=rfl
def rowU_cons:rowU S ns c ops l k s dst m K d ((i,o,ds)::u)=rowU S ns c ops l k s dst (m.put i o ds) K d u:=rfl
def rowU_grow{d':D}:rowU S ns c ops l k s dst m K d (Bi e fr d')=FP S ns c ops l k (BS s dst d) (Upd.app m (Bi e fr d')) K:=rfl
end
variable{K:Nat->(Nat->D)->Mem->List Foot->Prop}
def drawn_nil:Cd S ns c ops [] k s m K=K k s m []:=rfl
def drawn_one:Cd S ns c ops (⟨dst,op,af,none⟩::l) k s m K=AI S s m ((c+k)::ns) op (drawnU S ns c ops l (k+1) s dst m op K):=rfl
def drawn_if:Cd S ns c ops (⟨dst,op,af,some (j,b)⟩::l) k s m K=guardK (Gt s (Du ops j)) b
   (AI S s m ((c+k)::ns) op (drawnU S ns c ops l (k+1) s dst m op K))
   (Cd S ns c ops l (k+1) (BS s dst (.tup [])) m λk' s' m' f=>K k' s' m' ((rds S s m op,[])::f)) .mk:=rfl
def drawnU_nil:drawnU S ns c ops l k s dst m op K d []=Cd S ns c ops l k (BS s dst d) m λk' s' m' f=>K k' s' m' ((rds S s m op,[])::f):=rfl
def drawnU_cons:drawnU S ns c ops l k s dst m op K d ((i,o,ds)::u)=Cd S ns c ops l k (BS s dst d) (Upd.app (m.put i o ds) u) λk' s' m' f=>K k' s' m' ((rds S s m op,AL ((i,o,ds)::u))::f):=rfl
def drawnU_grow{d':D}:drawnU S ns c ops l k s dst m op K d (Bi e fr d')=Cd S ns c ops l k (BS s dst d) (Upd.app m (Bi e fr d')) λk' s' m' f=>K k' s' m' ((rds S s m op,AL (Bi e fr d'))::f):=rfl
end
def data_int{k:IntKind}{n:Int}:D.data (.int k n)=true:=rfl
def data_str{b:List UInt8}:D.data (.str b)=true:=rfl
def data_bool{b:Bool}:D.data (.bool b)=true:=rfl
def data_slice{nl:Bool}{t:Id}{xs:List D}:D.data (.slice nl t xs)=true:=rfl
def data_agg{xs:List D}:D.data (.agg xs)=true:=rfl
def data_ptr{i:Id}{o:Nat}:D.data (.ptr i o)=true:=rfl
def data_nilptr:D.data .nilptr=true:=rfl
def cells_int{k:IntKind}{n:Int}:D.cells (.int k n)=[.int k n]:=rfl
def cells_str{b:List UInt8}:D.cells (.str b)=[.str b]:=rfl
def cells_bool{b:Bool}:D.cells (.bool b)=[.bool b]:=rfl
def Ft{nl:Bool}{t:Id}{xs:List D}:D.cells (.slice nl t xs)=[.slice nl t xs]:=rfl
def cells_agg{xs:List D}:D.cells (.agg xs)=xs:=rfl
def cells_ptr{i:Id}{o:Nat}:D.cells (.ptr i o)=[.ptr i o]:=rfl
def un_int{k:IntKind}{n:Int}:D.un (.int k n)= .int k n:=rfl
def un_str{b:List UInt8}:D.un (.str b)= .str b:=rfl
def un_bool{b:Bool}:D.un (.bool b)= .bool b:=rfl
def un_slice{nl:Bool}{t:Id}{xs:List D}:D.un (.slice nl t xs)= .slice nl [] xs:=rfl
def un_agg{xs:List D}:D.un (.agg xs)= .agg (xs.map D.un1):=rfl
def un_fn{f:FuncId}{cs:List D}:D.un (.fn f cs)= .fn f cs:=rfl
def un1_int{k:IntKind}{n:Int}:D.un1 (.int k n)= .int k n:=rfl
def un1_str{b:List UInt8}:D.un1 (.str b)= .str b:=rfl
def un1_bool{b:Bool}:D.un1 (.bool b)= .bool b:=rfl
def un1_slice{nl:Bool}{t:Id}{xs:List D}:D.un1 (.slice nl t xs)= .slice nl [] xs:=rfl
def unR_int{k:IntKind}{n:Int}:D.unR (.int k n)= .int k n:=rfl
def unR_str{b:List UInt8}:D.unR (.str b)= .str b:=rfl
def unR_bool{b:Bool}:D.unR (.bool b)= .bool b:=rfl
def unR_slice{nl:Bool}{t:Id}{xs:List D}:D.unR (.slice nl t xs)= .slice nl [] xs:=rfl
def unR_agg{xs:List D}:D.unR (.agg xs)= .agg (xs.map D.un1):=rfl
def unR_tup{xs:List D}:D.unR (.tup xs)= .tup (xs.map D.un):=rfl
def calm_int{k:IntKind}{n:Int}:D.calm (.int k n)=true:=rfl
def calm_str{b:List UInt8}:D.calm (.str b)=true:=rfl
def calm_bool{b:Bool}:D.calm (.bool b)=true:=rfl
def calm_slice{nl:Bool}{xs:List D}:D.calm (.slice nl [] xs)=true:=rfl
def calm_aggs{xs:List D}:D.calm (.agg xs)=xs.all D.calm1:=rfl
def calm_fn{f:FuncId}:D.calm (.fn f [])=true:=rfl
def calm1_int{k:IntKind}{n:Int}:D.calm1 (.int k n)=true:=rfl
def calm1_str{b:List UInt8}:D.calm1 (.str b)=true:=rfl
def calm1_bool{b:Bool}:D.calm1 (.bool b)=true:=rfl
def calm1_slice{nl:Bool}{xs:List D}:D.calm1 (.slice nl [] xs)=true:=rfl
def calmR_int{k:IntKind}{n:Int}:D.calmR (.int k n)=true:=rfl
def calmR_str{b:List UInt8}:D.calmR (.str b)=true:=rfl
def calmR_bool{b:Bool}:D.calmR (.bool b)=true:=rfl
def calmR_slice{nl:Bool}{xs:List D}:D.calmR (.slice nl [] xs)=true:=rfl
def calmR_agg{xs:List D}:D.calmR (.agg xs)=xs.all D.calm1:=rfl
def calmR_tup{xs:List D}:D.calmR (.tup xs)=xs.all D.calm:=rfl
def l_map1{f:D->D}{x:D}{xs:List D}:(x::xs).map f=f x::xs.map f:=rfl
def l_map1n{f:D->D}:List.map f []=[]:=rfl
def l_map2{f:Arg->D}{x:Arg}{xs:List Arg}:(x::xs).map f=f x::xs.map f:=rfl
def l_map2n{f:Arg->D}:List.map f []=[]:=rfl
def l_map3{f:Nat×Nat×Arg->Nat×Nat×D}{x:Nat×Nat×Arg}{xs:List (Nat×Nat×Arg)}:(x::xs).map f=f x::xs.map f:=rfl
def l_map3n{f:Nat×Nat×Arg->Nat×Nat×D}:List.map f []=[]:=rfl
def l_all{f:D->Bool}{x:D}{xs:List D}:(x::xs).all f=(f x&&xs.all f):=rfl
def l_alln{f:D->Bool}:List.all [] f=true:=rfl
def l_len{x:D}{xs:List D}:(x::xs).length=xs.length+1:=rfl
def l_lenn:([]:List D).length=0:=rfl
def l_app{x:D}{xs ys:List D}:(x::xs)++ys=x::(xs++ys):=rfl
def l_appn{ys:List D}:[]++ys=ys:=rfl
def l_appr{ys:List D}:ys++[]=ys:=by simp
def l_get0{x:D}{xs:List D}:(x::xs)[0]?=some x:=rfl
def l_get1{x:D}{xs:List D}{n:Nat}:(x::xs)[n+1]?=xs[n]?:=rfl
def l_head{x:D}{xs:List D}:(x::xs).head?=some x:=rfl
def n_beq{n:Nat}:(n==n)=true:=by simp
def p_self:(True∧True)=True:=by simp
def p_and{p:Prop}:(True∧p)=p:=by simp
def p_and'{p:Prop}:(p∧True)=p:=by simp
def p_nf:(¬False)=True:=by simp
def p_nt:(¬True)=False:=by simp
def b_tt:(true=true)=True:=by simp
def b_ff:(false=false)=True:=by simp
def d_tt:decide True=true:=by simp
def d_ff:decide False=false:=by simp
def go1:=Qa @seqQ_normal <| Qa @seqQ_ret <| Qa @seqQ_exit <| Qa @blockQ_normal <| Qa @blockQ_ret <| Qa @Ei <| Qa @loopQ_normal <| Qa @loopQ_ret <| Qa @loopQ_exit <| Qa @wp_skip' <| Qa @wp_ret' <| Qa @wp_exit' <| Qa @wp_seq' <| Qa @wp_block_eq <| Qa @wp_cond_eq <| Qa @wp_row_eq <| Qa @wp_drawn_eq <| Qa @wp_loop_eq <| Qa @setS_some <| Qa @setS_none <| Qa @Arg.ev_t <| Qa @Arg.ev_c <| Qa @x_mv <| Qa @x_pick <| Qa @x_alloc <| Qa @x_box <| Qa @x_build <| Qa @x_bslice <| Qa @x_load <| Qa @x_range <| Qa @x_next <| Qa @x_store <| Qa @x_nilchk <| Qa @x_bin <| Qa @x_un <| Qa @x_beq <| Qa @x_seq <| Qa @x_nileq <| Qa @x_conv <| Qa @x_s2s <| Qa @x_s2b <| Qa @x_b2s <| Qa @x_faddr <| Qa @x_field <| Qa @x_iaddr <| Qa @x_idxs <| Qa @x_idxa <| Qa @x_idxm <| Qa @x_mxm <| Qa @x_iadda <| Qa @x_cuts <| Qa @x_cutl <| Qa @x_mkif <| Qa @x_ext <| Qa @x_mkfn <| Qa @x_len <| Qa @x_app <| Qa @x_mksl <| Qa @x_call <| Qa @ends_normal <| Qa @ends_ret <| Qa @ends_exit <| Qa @res_one <| Qa @res_two <| Qa @res_three <| Qa @res_zero <| Qa @row_nil <| Qa @row_one <| Qa @row_if <| Qa @rowU_nil <| Qa @rowU_cons <| Qa @rowU_grow <| Qa @drawnU_nil <| Qa @drawnU_cons <| Qa @drawnU_grow <| Qa @drawn_nil <| Qa @drawn_one <| Qa @drawn_if <| Qa @slot_zero @slot_succ
def go2:=Qa @Need_true <| Qa @ifQ_true <| Qa @ifQ_false <| Qa @A5 <| Qa @AW <| Qa @Em <| Qa @CE <| Qa @guardK_bool <| Qa @guardK_tup <| Qa @CJ <| Qa @condQ_bool <| Qa @pickK_bool <| Qa @loadK_ptr <| Qa @rangeK_str <| Qa @nextK_itp <| Qa @nextI_it <| Qa @loadK_ptrs <| Qa @loadK_eptr <| Qa @loadK_eptrs <| Qa @storeK_ptr <| Qa @nilchkK_ptr <| Qa @nilchkK_eptr <| Qa @nilchkK_fn <| Qa @beqV_f <| Qa @beqV_t <| Qa @seqV_agg <| Qa @convV_int <| Qa @s2sV_str <| Qa @s2bV_str <| Qa @b2sV_slice <| Qa @faddrV_ptr <| Qa @faddrV_eptr <| Qa @fieldV_leaf <| Qa @fieldV_agg <| Qa @iaddrK_slice <| Qa @idxsK_str <| Qa @idxaK_agg <| Qa @idxmK_agg <| Qa @mxmV_t <| Qa @mxmV_f <| Qa @iaddaK_ptr <| Qa @cutsK_str <| Qa @cutlK_slice <| Qa @optEv_none <| Qa @optEv_some <| Qa @boundV_none <| Qa @boundV_int <| Qa @extV_tup <| Qa @lenD_str <| Qa @lenD_slice <| Qa @lenD_row <| Qa @appK_slice <| Qa @appSrc_slice <| Qa @appSrc_str <| Qa @mkslK_int <| Qa @isNI_ni <| Qa @isNI_int <| Qa @isNI_str <| Qa @isNI_bool <| Qa @isNI_slice <| Qa @isNI_agg <| Qa @iaddrK_row <| Qa @v_add <| Qa @v_sub <| Qa @v_mul <| Qa @v_quo <| Qa @v_rem <| Qa @v_and <| Qa @v_or <| Qa @v_xor <| Qa @v_eql <| Qa @v_neq <| Qa @v_lss <| Qa @v_leq <| Qa @v_gtr <| Qa @v_geq <| Qa @v_shl <| Qa @v_shr <| Qa @v_cat <| Qa @v_seql <| Qa @v_sneq <| Qa @v_not <| Qa @v_neg <| Qa @not_dec <| Qa @dec_true <| Qa @dec_false <| Qa @ff_t <| Qa @tt_f <| Qa @ifQ_not <| Qa @app_nil <| Qa @app_cons <| Qa @unbytes_nil <| Qa @unbytes_cons <| Qa @opt_map_some <| Qa @entry_zero <| Qa @entry_succ @entry_nil
def go3:=Qa @data_int <| Qa @data_str <| Qa @data_bool <| Qa @data_slice <| Qa @data_agg <| Qa @data_ptr <| Qa @data_nilptr <| Qa @cells_int <| Qa @cells_str <| Qa @cells_bool <| Qa @Ft <| Qa @cells_agg <| Qa @cells_ptr <| Qa @un_int <| Qa @un_str <| Qa @un_bool <| Qa @un_slice <| Qa @un_agg <| Qa @un_fn <| Qa @un1_int <| Qa @un1_str <| Qa @un1_bool <| Qa @un1_slice <| Qa @unR_int <| Qa @unR_str <| Qa @unR_bool <| Qa @unR_slice <| Qa @unR_agg <| Qa @unR_tup <| Qa @calm_int <| Qa @calm_str <| Qa @calm_bool <| Qa @calm_slice <| Qa @calm_aggs <| Qa @calm_fn <| Qa @calm1_int <| Qa @calm1_str <| Qa @calm1_bool <| Qa @calm1_slice <| Qa @calmR_int <| Qa @calmR_str <| Qa @calmR_bool <| Qa @calmR_slice <| Qa @calmR_agg @calmR_tup
def go4:=Qa @l_map1 <| Qa @l_map1n <| Qa @l_map2 <| Qa @l_map2n <| Qa @l_map3 <| Qa @l_map3n <| Qa @l_all <| Qa @l_alln <| Qa @l_len <| Qa @l_lenn <| Qa @l_app <| Qa @l_appn <| Qa @l_appr <| Qa @l_get0 <| Qa @l_get1 <| Qa @l_head <| Qa @n_beq <| Qa @p_self <| Qa @p_and <| Qa @p_and' <| Qa @p_nf <| Qa @p_nt <| Qa @b_tt <| Qa @b_ff <| Qa @d_tt <| Qa @d_ff <| Qa @Ze <| Qa @Bool.and_true <| Qa @Bool.not_true @Bool.not_false
def gB0:(type_of% @Qy.{0})∧(type_of% @Qi.{0})∧(type_of% @QY.{0})∧(type_of% @Q2)∧(type_of% @Qh)∧(type_of% @Qq)∧(type_of% @and_self)∧(type_of% @go2)∧(type_of% @go3)∧(type_of% @go4):=
 ⟨@Qy,@Qi,@QY,@Q2,@Qh,@Qq,@and_self,@go2,@go3,@go4⟩
def gB1:(type_of% @Qx.{0,0})∧(type_of% @Qz.{0,0})∧(type_of% @go2)∧(type_of% @go3)∧(type_of% @go4):=
 ⟨@Qx,@Qz,@go2,@go3,@go4⟩
def gB2:(type_of% @go2)∧(type_of% @go3)∧(type_of% @go4):=
 ⟨@go2,@go3,@go4⟩
def gB3:(type_of% @Qi.{0})∧(type_of% @QY.{0}):=
 ⟨@Qi,@QY⟩
def Am {P:Program} {f:FuncId} {N:Nat} {dc:DC} {rs:List RV} {fn:Func} {code:Code} (h1:P.funcs[f]?=some fn) (h2:fn.body=some code:=by rfl) (h3:(fn.name== "runtime.NumGoroutine")=false:=by kernel_rfl) (h4:fn.ntmps=N:=by rfl) (h5:AD P N code=some dc:=by kernel_rfl) (h6:trRes P fn.results.toList=some rs:=by kernel_rfl):Fn P f N dc rs:=⟨fn,code,h1,h2,h3,h4,h5,h6⟩
def CV(G:Nat->Nat):Gh:={G:=G,G0:=G,dl:=λ_=>none,tb:=λ_=>none}
def start_inv(P:Program)(w:World){G:Nat->Nat}(hG:∀b,w.heap.size<=b->G b=0):InvM P w.heap.size w (λ_ _=>none) w (CV G):=
 ⟨Below.refl _ _,Qs _,hG,λ_ _=>rfl,λi b h=>by simp[CV]at h,λi i' b h=>by simp[CV]at h,λi o d h=>by simp at h,λi e h=>by simp at h,λi i' e e' b x x' h=>by simp at h,λi s p h=>by simp at h,λi i' s p s' p' b x x' h=>by simp at h⟩
def row_of{P:Program}{f:FuncId}{F:List D->Option D}(h:(Ac F).ok P f){w:World}{G:Nat->Nat}(hG:∀b,w.heap.size<=b->G b=0){ds:List D}{vs:List Value}{d:D}(hl:vs.length=ds.length)
  (hrep:∀(j:Nat) d v,ds[j]?=some d->vs[j]?=some v->Rep w (CV G) d v) (hu:ds.map D.un=ds) (hc:ds.all D.calm=true) (hF:F ds=some d):
  Calls P f vs.toArray w λe w'=>∃v g',e= .returned v∧Rep w' g' d v∧Below w.heap.size w w':=by
 have hex:(Ac F).ex ds (λ_ _=>none) []=some (d,[]):=by
  simp only[Ac];rw[hu,if_pos hc,hF];rfl
 refine(h.run (start_inv P w hG) (λi _=>⟨λ_=>rfl,rfl,rfl⟩) hl hrep hex).mono ?_;rintro e w' ⟨v,g',rfl,hs⟩;exact⟨v,g',rfl,hs.rep,hs.inv.below⟩
def row_true{P:Program}{f:FuncId}{F:List D->Option D}(h:(Ac F).ok P f){w:World}{G:Nat->Nat}(hG:∀b,w.heap.size<=b->G b=0){ds:List D}{vs:List Value}(hl:vs.length=ds.length)
  (hrep:∀(j:Nat) d v,ds[j]?=some d->vs[j]?=some v->Rep w (CV G) d v) (hu:ds.map D.un=ds) (hc:ds.all D.calm=true) (hF:F ds=some (.bool true)):
  Calls P f vs.toArray w λe w'=>e= .returned (.bool true)∧Below w.heap.size w w':=by
 refine(row_of h hG hl hrep hu hc hF).mono ?_;rintro e w' ⟨v,g',rfl,hr,hb⟩;rw[hr.bool_inv];exact⟨rfl,hb⟩
def A2(f:List Foot)(ps:List (Nat×Nat)):Bool:=ps.all λp=>(f.getD p.1 ([],[])).2.all λl=>!((f.getD p.2 ([],[])).1.contains l)&&!((f.getD p.2 ([],[])).2.contains l)
def Aj{f:List Foot}{ps:List (Nat×Nat)}(h:A2 f ps=true):feetOk f ps:=by
 intro p hp l hl;have h1:=Qt.1 h p hp;have h2:=Qt.1 h1 l hl;simpa using h2
def DC.run(S:Summs)(ns:Id):Nat->DC->St->Option (Ex×St)
 |0,_,_=>none
 |_+1,.skip,st=>some (.normal,st)
 |_+1,.ret,st=>some (.ret,st)
 |_+1,.exit i,st=>some (.exit i,st)
 |_+1,.row ops,st=>match Eh S ns st.c ops ops 0 st.s st.m with
  |some (s,m)=>some (.normal,⟨s,m,st.c+ops.length⟩)
  |none=>none
 |_+1,.drawn ops ps,st=>match Cc S ns st.c ops ops 0 st.s st.m with
  |some (s,m,f)=>if A2 f ps=true then some (.normal,⟨s,m,st.c+ops.length⟩)else none
  |none=>none
 |n+1,.seq a b,st=>match DC.run S ns n a st with
  |some (.normal,st1)=>DC.run S ns n b st1
  |r=>r
 |n+1,.cond c a b,st=>match c.ev st.s with
  | .bool true=>DC.run S ns n a st
  | .bool false=>DC.run S ns n b st
  |_=>none
 |n+1,.block i c,st=>match DC.run S ns n c st with
  |some (.exit j,st1)=>if j=i then some (.normal,st1)else some (.exit j,st1)
  |r=>r
 |n+1,.loop c,st=>match DC.run S ns n c st with
  |some (.normal,st1)=>DC.run S ns n (.loop c) st1
  |r=>r
def run_ev{S:Summs}{ns:Id}:∀(n:Nat)(dc:DC)(st:St)(e:Ex)(st':St),DC.run S ns n dc st=some (e,st')->Ev S ns dc st e st':=by
 intro n;induction n with
 |zero=>intro dc st e st' h;simp[DC.run]at h
 |succ n ih=>
  intro dc st e st' h;cases dc with
  |skip=>simp only[DC.run,Qb,Qj]at h;exact⟨h.1.symm,h.2.symm⟩
  |ret=>simp only[DC.run,Qb,Qj]at h;exact⟨h.1.symm,h.2.symm⟩
  |exit i=>simp only[DC.run,Qb,Qj]at h;exact⟨h.1.symm,h.2.symm⟩
  |row ops=>
   simp only[DC.run]at h;split at h
   ·rename_i s m he;simp only[Qb,Qj]at h;obtain⟨rfl,rfl⟩:=h;exact⟨rfl,he,rfl⟩
   ·cases h
  |drawn ops ps=>
   simp only[DC.run]at h;split at h
   ·rename_i s m f he;split at h
    ·rename_i hf;simp only[Qb,Qj]at h;obtain⟨rfl,rfl⟩:=h;exact⟨rfl,⟨f,he,Aj hf⟩,rfl⟩
    ·cases h
   ·cases h
  |seq a b=>
   simp only[DC.run]at h;split at h
   ·rename_i st1 h1;exact⟨.normal,st1,ih _ _ _ _ h1,.inl ⟨rfl,ih _ _ _ _ h⟩⟩
   ·rename_i hne;refine⟨e,st',ih _ _ _ _ h,.inr ⟨λhe=>?_,rfl,rfl⟩⟩;subst he;exact hne st' h
  |cond c a b=>
   simp only[DC.run]at h;split at h
   ·rename_i hc;exact .inl ⟨hc,ih _ _ _ _ h⟩
   ·rename_i hc;exact .inr ⟨hc,ih _ _ _ _ h⟩
   ·cases h
  |block i c=>
   simp only[DC.run]at h;split at h
   ·rename_i j st1 h1;split at h
    ·rename_i hj;simp only[Qb,Qj]at h;obtain⟨rfl,rfl⟩:=h;exact⟨.exit j,ih _ _ _ _ h1,.inl ⟨by rw[hj],rfl⟩⟩
    ·rename_i hj;simp only[Qb,Qj]at h;obtain⟨rfl,rfl⟩:=h;exact⟨.exit j,ih _ _ _ _ h1,.inr ⟨by simp[hj],rfl⟩⟩
   ·rename_i hne;refine⟨e,ih _ _ _ _ h,.inr ⟨λhe=>?_,rfl⟩⟩;subst he;exact hne i st' h
  |loop c=>
   simp only[DC.run]at h;split at h
   ·rename_i st1 h1;obtain⟨k,hk⟩:=ih _ _ _ _ h;exact⟨k+1,.more k _ _ _ _ (ih _ _ _ _ h1) hk⟩
   ·rename_i hne;refine⟨0,.stop _ _ _ (ih _ _ _ _ h) (λhe=>?_)⟩;subst he;exact hne st' h
def funRun(S:Summs)(N:Nat)(dc:DC)(rs:List RV)(fuel:Nat)(ds:List D):Option D:=
 if ds.length<=N then match DC.run S [] fuel dc ⟨Br ds,λ_ _=>none,0⟩with
  |some (.exit _,_)=>none
  |some (_,st)=>match BY rs st.s st.m with
   |some d=>if d.unR.calmR=true then some d.unR else none
   |none=>none
  |none=>none
 else none
def funRun_ok{P:Program}{S:Summs}{f:FuncId}{N:Nat}{dc:DC}{rs:List RV}(hS:Summs.ok P S)(hf:Fn P f N dc rs)(fuel:Nat):(Ac (funRun S N dc rs fuel)).ok P f:=by
 refine Az hS hf (λds r h=>?_) (λds r h=>?_)
 ·unfold funRun at h;split at h
  ·assumption
  ·cases h
 ·unfold funRun at h;split at h
  ·split at h
   ·cases h
   ·rename_i ex st hne hr;split at h
    ·rename_i d hd;split at h
     ·rename_i hc;simp only[Qb]at h;subst h;refine⟨ex,st,run_ev _ _ _ _ _ hr,?_,d,hd,rfl,hc⟩;cases ex with
      |normal=>exact .inl rfl
      |ret=>exact .inr rfl
      |exit i=>exact absurd rfl (hne i)
     ·cases h
    ·cases h
   ·cases h
  ·cases h
end Go.Vd
namespace Go.Vd
open Go.Proofs
inductive Tz where
 |bo|st|pt|fu|nf|mp|un
 |im (k:IntKind)
 |sl (e sz by':Nat)
 |gr (zs:List D) (fs:List (Nat×Nat))
 |ar (zs:List D) (len e:Nat)
def zT:Nat->Tz
 |3=> .im .i64
 |4=> .bo
 |5=> .im .u8
 |9=> .st
 |21=> .im .i32
 |22=> .sl 38 3 40
 |24=> .sl 109 2 40
 |26=> .gr [(.slice true [] []),(.slice true [] [])] [(0,22),(1,24)]
 |28=> .sl 9 1 16
 |29=> .sl 4 1 1
 |30=> .sl 28 1 24
 |32=> .gr [(.slice true [] []),(.slice true [] []),(.slice true [] []),(.slice true [] []),(.slice true [] [])] [(0,28),(1,28),(2,29),(3,28),(4,30)]
 |38=> .gr [(.str []),(.str []),(.bool false)] [(0,9),(1,9),(2,4)]
 |40=> .sl 118 3 32
 |41=> .sl 134 3 56
 |43=> .gr [(.bool false),(.int .i64 0),(.str []),(.slice true [] []),(.slice true [] [])] [(0,4),(1,3),(2,9),(3,40),(4,41)]
 |44=> .sl 3 1 8
 |45=> .sl 191 2 24
 |47=> .gr [(.int .u8 0),(.str []),(.str []),(.str []),(.int .i64 0),(.int .i64 0),(.bool false),(.slice true [] []),(.str []),(.slice true [] []),(.str [])] [(0,5),(1,9),(2,9),(3,9),(4,3),(5,3),(6,4),(7,44),(8,9),(9,45),(10,9)]
 |50=> .sl 124 3 32
 |52=> .gr [(.slice true [] [])] [(0,50)]
 |53=> .sl 97 3 56
 |55=> .gr [(.slice true [] [])] [(0,53)]
 |57=> .gr [(.bool false),(.int .i64 0),(.str []),(.slice true [] []),(.slice true [] [])] [(0,4),(1,3),(2,9),(3,52),(4,55)]
 |58=> .gr [(.bool false),(.int .i64 0),(.str []),(.slice true [] []),(.slice true [] [])] [(0,4),(1,3),(2,9),(3,40),(4,41)]
 |61=> .sl 209 2 24
 |63=> .gr [(.int .u8 0),(.str []),(.str []),(.str []),(.int .i64 0),(.int .i64 0),(.bool false),(.slice true [] []),(.str []),(.slice true [] []),(.str [])] [(0,5),(1,9),(2,9),(3,9),(4,3),(5,3),(6,4),(7,44),(8,9),(9,61),(10,9)]
 |65=> .sl 107 3 40
 |67=> .gr [(.str []),(.bool false),(.str []),(.slice true [] []),(.bool false),(.int .i64 0),(.str []),(.slice true [] []),(.slice true [] [])] [(0,9),(1,4),(2,9),(3,65),(4,57)]
 |75=> .im .i64
 |81=> .fu
 |83=> .sl 172 3 40
 |85=> .gr [(.str []),(.bool false),(.str []),(.slice true [] []),(.bool false),(.int .i64 0),(.str []),(.slice true [] []),(.slice true [] [])] [(0,9),(1,4),(2,9),(3,83),(4,58)]
 |89=> .sl 228 3 16
 |91=> .gr [(.int .i64 0),(.bool false),(.int .i64 0),(.slice true [] [])] [(0,3),(1,4),(2,3),(3,89)]
 |93=> .gr [(.int .u8 0),(.int .i64 0),(.int .i64 0),(.str []),(.slice true [] []),(.int .i64 0),(.bool false),(.int .i64 0),(.slice true [] []),(.bool false)] [(0,5),(1,75),(2,3),(3,9),(4,28),(5,91),(9,4)]
 |97=> .gr [(.str []),(.str []),(.slice true [] [])] [(0,9),(1,9),(2,61)]
 |103=> .gr [(.int .u8 0),(.str []),(.int .i64 0)] [(0,5),(1,9),(2,3)]
 |107=> .gr [(.int .u8 0),(.str []),(.str [])] [(0,5),(1,9),(2,9)]
 |109=> .gr [(.str []),(.slice true [] [])] [(0,9),(1,28)]
 |116=> .gr [(.int .i64 0),(.bool false)] [(0,3),(1,4)]
 |118=> .gr [(.str []),(.int .i64 0),(.bool false)] [(0,9),(1,116)]
 |122=> .gr [(.int .i64 0),(.bool false)] [(0,3),(1,4)]
 |124=> .gr [(.str []),(.int .i64 0),(.bool false)] [(0,9),(1,122)]
 |134=> .gr [(.str []),(.str []),(.slice true [] [])] [(0,9),(1,9),(2,45)]
 |137=> .im .u64
 |139=> .pt
 |141=> .gr [(.bool false),(.int .i64 0),(.str []),(.slice true [] []),(.slice true [] []),(.int .u8 0),(.str []),(.str []),(.str []),(.int .i64 0),(.int .i64 0),(.bool false),(.slice true [] []),(.str []),(.slice true [] []),(.str []),(.slice true [] []),(.slice true [] []),(.slice true [] []),(.slice true [] []),(.slice true [] []),(.str []),(.bool false),(.str []),(.slice true [] []),(.bool false),(.int .i64 0),(.str []),(.slice true [] []),(.slice true [] [])] [(0,57),(5,63),(16,32),(21,67)]
 |157=> .sl 164 3 16
 |159=> .gr [(.int .i64 0),(.bool false),(.int .i64 0),(.slice true [] [])] [(0,3),(1,4),(2,3),(3,157)]
 |164=> .gr [(.int .i64 0),(.bool false),(.bool false)] [(0,3),(1,4),(2,4)]
 |170=> .gr [(.int .u8 0),(.int .i64 0),(.int .i64 0),(.str []),(.slice true [] []),(.int .i64 0),(.bool false),(.int .i64 0),(.slice true [] []),(.bool false)] [(0,5),(1,3),(2,3),(3,9),(4,28),(5,159),(9,4)]
 |172=> .gr [(.int .u8 0),(.str []),(.str [])] [(0,5),(1,9),(2,9)]
 |186=> .sl 29 1 24
 |188=> .sl 30 1 24
 |191=> .gr [(.str []),(.int .u8 0)] [(0,9),(1,5)]
 |198=> .fu
 |209=> .gr [(.str []),(.int .u8 0)] [(0,9),(1,5)]
 |228=> .gr [(.int .i64 0),(.bool false),(.bool false)] [(0,3),(1,4),(2,4)]
 |248=> .gr [(.str []),(.str [])] [(0,9),(1,9)]
 |256=> .fu
 |264=> .sl 5 1 1
 |270=> .gr [(.int .u8 0),(.str []),(.int .i64 0)] [(0,5),(1,9),(2,3)]
 |290=> .gr [] []
 |297=> .fu
 |305=> .fu
 |306=> .sl 50 1 24
 |311=> .ar [(.slice true [] []),(.slice true [] [])] 2 61
 |320=> .pt
 |322=> .gr [.nilptr,(.slice true [] [])] [(0,320),(1,264)]
 |346=> .fu
 |351=> .ar [(.str []),(.str []),(.str []),(.str []),(.str []),(.str []),(.str []),(.str []),(.str []),(.str []),(.str []),(.str []),(.str []),(.str []),(.str []),(.str []),(.str []),(.str []),(.str []),(.str []),(.str []),(.str []),(.str []),(.str []),(.str []),(.str []),(.str []),(.str []),(.str []),(.str []),(.str []),(.str []),(.str []),(.str []),(.str []),(.str []),(.str []),(.str [])] 19 248
 |362=> .sl 270 3 32
 |380=> .fu
 |385=> .im .i64
 |392=> .im .u32
 |394=> .im .u64
 |395=> .sl 53 1 24
 |409=> .pt
 |411=> .gr [(.str []),(.int .i64 0),(.int .i64 0)] [(0,9),(1,3),(2,75)]
 |414=> .fu
 |438=> .fu
 |_=> .un
def Tz.z:Tz->List D
 | .bo=>[.bool false]
 | .st=>[.str []]
 | .pt=>[.nilptr]
 | .fu=>[.nilFunc]
 | .nf=>[.nilIface]
 | .mp=>[.nilMap]
 | .un=>[]
 | .im k=>[.int k 0]
 | .sl _ _ _=>[.slice true [] []]
 | .gr zs _=>zs
 | .ar zs _ _=>zs
def Tz.k:Tz->Option Nat
 | .gr zs _=>some zs.length
 | .ar zs _ _=>some zs.length
 |_=>none
def Tz.d(t:Tz):D:=match t with
 | .gr zs _=> .agg zs
 | .ar zs _ _=> .agg zs
 |t=>t.z.headD .junk
def Tz.n(t:Tz):Nat:=t.z.length
def tA:Operand->Arg
 | .tmp t=> .t t
 | .const v=> .c ((ofVal v).getD .junk)
 | .func f=> .c (.fn f [])
 | .global _=> .t 0
def lk{α:Type}(d:α)(k:Nat):List (Nat×α)->α
 |[]=>d
 |(j,x)::r=>if j=k then x else lk d k r
def fAt(t:Tz)(f:Nat):Nat×Nat:=match t with
 | .gr _ fs=>fs.getD f (0,0)
 |_=>(0,0)
def offsZ:List (Nat×Nat)->List (Nat×Nat)
 |[]=>[]
 |(o,t)::r=>(match zT t with
  | .im _=>[(0,o)]
  | .bo=>[(1,o)]
  | .st=>[(2,o)]
  | .gr _ fs=>fs.map λp=>((match zT p.2 with| .im _=>0| .bo=>1|_=>2),o+p.1)
  |_=>[])++offsZ r
def tE(ne:Bool)(t:Tz)(a b:Arg):DOp:=match t with
 | .bo=> .beq ne a b
 | .im _=> .bin (if ne=true then .neq else .eql) a b
 | .st=> .bin (if ne=true then .neq else .eql) a b
 | .gr _ fs=> .seq ne (offsZ fs) a b
 | .sl _ _ _=> .nileq ne 0 a b
 | .pt=> .nileq ne 1 a b
 | .fu=> .nileq ne 3 a b
 | .nf=> .nileq ne 2 a b
 |_=> .stop
def tB(o:BinOp)(t:Tz)(a b:Arg):DOp:=match o with
 | .eql=>tE false t a b
 | .neq=>tE true t a b
 |o=> .bin o a b
def tC(s t:Tz)(x:Arg):DOp:=match s,t with
 | .im _,.im k=> .conv k x
 | .st,.st=> .s2s x
 | .st,.sl _ _ _=> .s2b x
 | .sl _ _ _,.st=> .b2s x
 |_,_=> .stop
def tX(t:Tz)(x i:Arg):DOp:=match t with
 | .sl _ s _=> .iaddr s x i
 | .ar _ n e=> .iadda n (zT e).n x i
 |_=> .stop
def tI(t:Tz)(x i:Arg):DOp:=match t with
 | .st=> .idxs x i
 | .ar _ n e=>(match (zT e).k with
  |none=> .idxa n x i
  |some s=> .idxm n s x i)
 |_=> .stop
def tS(t:Tz)(x:Arg)(l h:Option Arg):DOp:=match t with
 | .st=> .cuts x l h
 | .sl _ s _=> .cutl s x l h
 |_=> .stop
def tP(t:Tz)(l:List (Nat×Operand)):DOp:=match t with
 | .gr zs fs=> .build zs (l.map λp=>((fs.getD p.1 (0,0)).1,(zT (fs.getD p.1 (0,0)).2).n,tA p.2))
 | .ar zs _ e=> .build zs (l.map λp=>(p.1*(zT e).n,(zT e).n,tA p.2))
 |_=> .stop
def tG(t:Tz)(l:List (Nat×Operand)):DOp:=match t with
 | .sl e s _=> .bslice e s (l.map λp=>tA p.2)
 |_=> .stop
def tM(t:Tz)(n c:Arg):DOp:=match t with
 | .sl e s b=> .mksl e s b (zT e).d n c
 |_=> .stop
def tL(c:Callee)(xs:List Operand)(ts:List Nat):DOp:=match c with
 | .value f=> .call (tA f) (xs.map tA)
 | .builtin .len=>(match xs,ts with
  |[x],[t]=>(match zT t with| .st=> .len true (tA x)|_=> .len false (tA x))
  |_,_=> .stop)
 | .builtin .append=>(match xs,ts with
  |[x,y],[t,_]=>(match zT t with| .sl e s b=> .app e s b (tA x) (tA y)|_=> .stop)
  |_,_=> .stop)
 | .builtin .max=>(match xs with|[x,y]=> .mxm true (tA x) (tA y)|_=> .stop)
 | .builtin .min=>(match xs with|[x,y]=> .mxm false (tA x) (tA y)|_=> .stop)
 |_=> .stop
def tO:Op->DOp
 | .move x=> .mv (tA x)
 | .assign x=> .mv (tA x)
 | .pick c a b=> .pick (tA c) (tA a) (tA b)
 | .alloc t=> .alloc (zT t).z
 | .box _ x=> .box (tA x)
 | .build t l=>tP (zT t) l.toList
 | .buildSlice t _ l=>tG (zT t) l.toList
 | .load t x=> .load (zT t).k (tA x)
 | .store t x v=> .store (zT t).n (tA x) (tA v)
 | .nilCheck x=> .nilchk (tA x)
 | .binOp o t x y _=>tB o (zT t) (tA x) (tA y)
 | .unOp o _ x=> .un o (tA x)
 | .convert s t x=>tC (zT s) (zT t) (tA x)
 | .fieldAddr t x f=> .faddr (fAt (zT t) f).1 (tA x)
 | .field t x f=> .field (zT (fAt (zT t) f).2).k (fAt (zT t) f).1 (tA x)
 | .indexAddr t x i=>tX (zT t) (tA x) (tA i)
 | .index t x i=>tI (zT t) (tA x) (tA i)
 | .slice t x l h _=>tS (zT t) (tA x) (l.map tA) (h.map tA)
 | .makeInterface t x=> .mkif t (tA x)
 | .typeAssert x _ t ok=> .tass t ok (zT t).d (tA x)
 | .extract x i=> .ext i (tA x)
 | .makeSlice t n c=>tM (zT t) (tA n) (tA c)
 | .range _ x=> .range (tA x)
 | .next x _=> .next (tA x)
 | .makeFunc (.func f) _ l=> .mkfn f (l.toList.map tA)
 | .call c=>tL c.callee c.args.toList c.argTypes.toList
 |_=> .stop
def tR(o:Oper):DOper:=⟨o.dst,tO o.op,[],o.guard⟩
def fid:Code->Nat
 | .region i _ _=>i
 | .seq a _=>fid a
 | .block _ a=>fid a
 | .loop a=>fid a
 |_=>0
def lpAt(k:Nat):Code->Option Code
 | .seq a b=>(lpAt k a).or (lpAt k b)
 | .cond _ a b=>(lpAt k a).or (lpAt k b)
 | .block _ a=>lpAt k a
 | .loop a=>if fid a=k then some a else lpAt k a
 |_=>none
def tQ(ps:List (Nat×List (Nat×Nat)))(ls:List (Nat×DC)):Code->DC
 | .skip=> .skip
 | .ret=> .ret
 | .exit i=> .exit i
 | .region i ops false=> .row (ops.toList.map tR)
 | .region i ops true=> .drawn (ops.toList.map tR) (lk [] i ps)
 | .seq a b=> .seq (tQ ps ls a) (tQ ps ls b)
 | .cond c a b=> .cond (tA c) (tQ ps ls a) (tQ ps ls b)
 | .block i c=> .block i (tQ ps ls c)
 | .loop c=> .loop (lk .skip (fid c) ls)
 |_=> .skip
def tAi(k i):tA (.const (.int k i))= .c (.int k i):=rfl
def tAb(b):tA (.const (.bool b))= .c (.bool b):=rfl
def tAs(s):tA (.const (.string s))= .c (.str s.data.toList):=rfl
def tAl:tA (.const (.slice none 0 0))= .c (.slice true [] []):=rfl
def tAp:tA (.const (.pointer none))= .c .nilptr:=rfl
def tAn:tA (.const .nilIface)= .c .nilIface:=rfl
def tAu:tA (.const .nilFunc)= .c .nilFunc:=rfl
def tAg(l):tA (.const (.agg l))= .c ((ofVal (.agg l)).getD .junk):=rfl
def tAt(t):tA (.tmp t)= .t t:=rfl
def tAf(f):tA (.func f)= .c (.fn f []):=rfl
def bAt(f:Func):Code:=f.body.getD .skip
abbrev y0(f:Func)(ps:List (Nat×List (Nat×Nat)))(ls:List (Nat×DC)){c:DC}(_:tQ ps ls (bAt f)=c:=by exact Eq.trans (by conv=>lhs;whnf) (by simp only[tQ,tR,tO,tAt,tAi,tAb,tAs,tAf,tAl,tAp,tAn,tAu,tAg,zT,Tz.k,Tz.z,Tz.n,Tz.d,tL,tP,tB,tE,tX,tS,tI,tG,tC,tM,fAt,offsZ,lk,ofVal,List.getD_cons_zero,List.getD_cons_succ,List.map_cons,List.map_nil,gB3,List.headD_cons,List.cons_append,List.nil_append,Option.map_some,Option.map_none,Option.getD_some,Bool.false_eq_true,reduceIte,Nat.reduceAdd,Nat.reduceMul,Nat.reduceEqDiff]<;>rfl)):DC:=c
abbrev y1(f:Func)(k:Nat)(ps:List (Nat×List (Nat×Nat)))(ls:List (Nat×DC)){c:DC}(_:tQ ps ls ((lpAt k (bAt f)).getD .skip)=c:=by exact Eq.trans (by conv=>lhs;whnf) (by simp only[tQ,tR,tO,tAt,tAi,tAb,tAs,tAf,tAl,tAp,tAn,tAu,tAg,zT,Tz.k,Tz.z,Tz.n,Tz.d,tL,tP,tB,tE,tX,tS,tI,tG,tC,tM,fAt,offsZ,lk,ofVal,List.getD_cons_zero,List.getD_cons_succ,List.map_cons,List.map_nil,gB3,List.headD_cons,List.cons_append,List.nil_append,Option.map_some,Option.map_none,Option.getD_some,Bool.false_eq_true,reduceIte,Nat.reduceAdd,Nat.reduceMul,Nat.reduceEqDiff]<;>rfl)):DC:=c
def dc89:=y0 f89 [] []
def fn89:Fn Qc 89 6 dc89 []:=Am func89
def dc90l0:=y1 f90 4 [] []
def dc90:=y0 f90 [] [(4,dc90l0)]
def fn90:Fn Qc 90 46 dc90 [.t 2]:=Am func90
def dc357:=y0 f357 [] []
def fn357:Fn Qc 357 24 dc357 [.t 2]:=Am func357
def dc289l0:=y1 f289 5 [] []
def dc289:=y0 f289 [] [(5,dc289l0)]
def fn289:Fn Qc 289 47 dc289 [.t 2,.t 3]:=Am func289
def dc187:=y0 f187 [] []
def fn187:Fn Qc 187 19 dc187 [.t 2]:=Am func187
def dc290:=y0 f290 [] []
def fn290:Fn Qc 290 12 dc290 [.t 2]:=Am func290
def dc408:=y0 f408 [] []
def fn408:Fn Qc 408 21 dc408 [.t 4]:=Am func408
def dc394:=y0 f394 [] []
def fn394:Fn Qc 394 18 dc394 [.t 4,.t 5]:=Am func394
def dc358:=y0 f358 [] []
def fn358:Fn Qc 358 11 dc358 [.t 4,.t 5]:=Am func358
def dc291:=y0 f291 [] []
def fn291:Fn Qc 291 20 dc291 [.cell (some 3) 2]:=Am func291
def dc188l0:=y1 f188 5 [(7,[(3,1),(4,1)])] []
def dc188:=y0 f188 [(1,[(3,6),(3,10),(3,13),(7,10),(7,13),(11,13),(13,2),(13,3),(13,6),(13,7),(13,10),(13,11)])] [(5,dc188l0)]
def fn188:Fn Qc 188 42 dc188 [.cell (some 4) 2]:=Am func188
def dc91:=y0 f91 [(9,[(3,6)])] []
def fn91:Fn Qc 91 96 dc91 [.cell (some 10) 2]:=Am func91
end Go.Vd
namespace Go.Vd
open Go.RowKit
structure Swaps (p:Id->Id):Prop where
 inv:∀i,p (p i)=i
 nil:p []=[]
def Swaps.inj{p:Id->Id}(h:Swaps p){i j:Id}(e:p i=p j):i=j:=by rw[←h.inv i,e,h.inv]
def Swaps.nn{p:Id->Id}(h:Swaps p){i:Id}(e:p i≠[]):i≠[]:=λhi=>e (by rw[hi,h.nil])
section
variable{P:Program}{S:Summs}{f:FuncId}{N:Nat}{dc:DC}{rs:List RV}
end
section
variable{P:Program}{f:FuncId}
def trueF:List D->Option D
 |[]=>some (.bool true)
 |_=>none
end
def DD(e:Nat):Summ where
 rd:=λ_ _=>[]
 ex:=λds _ fr=>match ds with
  |[.slice true _ [],.int .i64 k]=>if 0<k∧k<=1000000 then some (.slice false (0::fr) [],[(0::fr,0,[.tok (e+1)])])else none
  |_=>none
def grow_ok {P:Program} {f:FuncId} {e sz:Nat} (ent:∃fn,P.funcs[f]?=some fn∧fn.body.isSome=true∧(fn.name== "runtime.NumGoroutine")=false) (hsz:0<sz)
  (hi:∃ti z,P.info? e=some ti∧ti.size=sz∧ti.zero=some z∧z.cells.size=sz)
  (walk:∀(w:World)(k:Nat),0<k->k<=1000000->Calls P f #[.slice none 0 0,.int .i64 (k:Int)] w λev w'=>∃c cs,c<=maxLen∧cs.size=c*sz∧ev= .returned (.slice (some ⟨w.heap.size,0,none⟩) 0 c)∧w'=w.drew.alloc (.cells cs e)):(DD e).ok P f:=by
 refine⟨ent,λds m m' fr _=>rfl,?_⟩;intro B w0 w m g fr ds vs r u hinv hfresh hl hrep hex;simp only[DD]at hex;split at hex
 ·rename_i t k;split at hex
  ·rename_i hc;obtain⟨hk0,hk⟩:=hc;simp only[Qb,Qj]at hex;obtain⟨rfl,rfl⟩:=hex
   match vs,hl with
   |[v0,v1],_=>
    have hr0:=hrep 0 _ v0 rfl rfl;have hr1:=(hrep 1 _ v1 rfl rfl).int_inv;subst hr1;have e0:v0= .slice none 0 0:=by
     rcases hr0.slice_inv with ⟨_,_,e⟩|⟨h,_⟩
     ·exact e
     ·cases h
    subst e0;have hkn:((k.toNat:Nat):Int)=k:=Int.toNat_of_nonneg (by omega);have hw:=walk w k.toNat (by omega) (by omega);rw[hkn]at hw;refine hw.mono ?_;rintro ev w' ⟨c,cs,hcm,hcs,rfl,rfl⟩;have hf0:=hfresh (0::fr) (Qw 0 fr);have hinv':=(hinv.drew).newTok hf0 (e:=e) (n:=0) (c:=c) (sz:=sz) (cur:=cs) hsz hi (Qq _) hcm hcs;have hext:=(Ext.drew w g).trans (Ext.newTok (w:=w.drew) (t:=0::fr) (n:=0) (c:=c) (sz:=sz) (Obj.cells cs e) hinv.drew.gz hf0.2.2 rfl);refine⟨_,_,rfl,hinv',hext,?_,λi hf hn=>CO hf (λh=>hn ((Qw 0 fr).trans h)) _ _ _ _ _⟩;exact Rep.ofRow (sz:=sz) (xs:=[]) (vs:=[]) (cur:=cs) (T:=e) (fz:=(0,0)) (heap_alloc_new w.drew _) rfl (Qq _) (λd hd=>by cases hd) (A3.nil _ _) (λj v hv=>by simp at hv) (by simp) (λ_=>by simp[Gh.tok]) (λd hd=>by cases hd)
  ·cases hex
 ·cases hex
def EE:List D->Option (List D)
 |[]=>some []
 | .slice _ _ xs::r=>(EE r).map (xs++·)
 |_=>none
def isStrD:D->Bool
 | .str _=>true
 |_=>false
def strOf:D->List UInt8
 | .str s=>s
 |_=>[]
def rep_own{P:Program}{B:Nat}{w0 w w':World}{m:Mem}{g:Gh}{e n:Nat}{v:Value}{xs:List D}(hi:InvM P B w0 m w g)(hb:Below w.heap.size w w')(hx:xs.all isStrD=true)(hn:n=xs.length)
  (ho:w'.ownsRow w.heap.size e 1 v n (xs.map λd=>Value.string ⟨(strOf d).toArray⟩)) (hv:v≠ .slice none 0 0):Rep w' (g.over w w') (.slice false [] xs) v:=by
 obtain⟨h1,h2⟩:=ho;rcases h2 with ⟨h2,_⟩|⟨b,cap,cur,rfl,hbase,hh,hnc,hcm,hsz,htk⟩
 ·exact absurd h2 hv
 ·have hcells:∀d∈xs,d.cells.length=1∧d.calm=true:=by
   intro d hd;have:=Qt.1 hx d hd;unfold isStrD at this;split at this
   ·exact⟨rfl,rfl⟩
   ·cases this
  have hreps:A3 w' (g.over w w') (flat xs) (xs.map λd=>Value.string ⟨(strOf d).toArray⟩):=by
   clear hn h1 htk hv;induction xs with
   |nil=>exact A3.nil _ _
   |cons x r ih=>
    simp only[List.all_cons,QV]at hx;have ihr:=ih hx.2 (λd hd=>hcells d (QB _ hd))
    match x,hx.1 with
    | .str s,_=>exact A3.append (A3.one (.str s) rfl) ihr
  refine Rep.ofRow (sz:=1) (vs:=xs.map λd=>Value.string ⟨(strOf d).toArray⟩) hh hn hnc (λd hd=>(hcells d hd).1) hreps (λj v hv=>?_) ?_ (λh=>absurd rfl h) (λd hd=>(hcells d hd).2)
  ·rw[←htk]at hv;have hj:j<n*1:=by
    rcases Nat.lt_or_ge j (n*1)with h|h
    ·exact h
    ·rw[Za (by simp;omega)]at hv;cases hv
   rw[Qu hj]at hv;simpa using hv
  ·simp only[Gh.over];rw[if_neg (by omega),hh];show n*1<=cur.size;omega
mutual
def D.off(i:Id):D->Bool
 | .ptr j _=>j !=i
 | .row j _=>j !=i
 | .agg cs=>D.offL i cs
 | .tup cs=>D.offL i cs
 | .fn _ cs=>D.offL i cs
 |_=>true
def D.offL(i:Id):List D->Bool
 |[]=>true
 |d::r=>D.off i d&&D.offL i r
end
def offL_all{i:Id}:∀{l:List D},D.offL i l=true↔∀d∈l,d.off i=true
 |[]=>by simp[D.offL]
 |d::r=>by simp only[D.offL,QV,offL_all,QN,forall_eq_or_imp]
def offL_of{i:Id}{w:World}{g:Gh}{ds:List D}{vs:List Value}(hl:vs.length=ds.length)(h:∀(j:Nat) d v,ds[j]?=some d->vs[j]?=some v->d.off i=true):D.offL i ds=true:=by
 rw[offL_all];intro d hd;obtain⟨j,hj,rfl⟩:=Q_ hd;exact h j _ vs[j] (Qe hj) (Qe (by omega))
def Rep.off{w:World}{g:Gh}{i:Id}(hi:g.dl i=none){d:D}{v:Value}(h:Rep w g d v):d.off i=true:=by
 induction h with
 |ptr j o b h1=>
  simp only[D.off,bne_iff_ne,ne_eq];rintro rfl;rw[hi]at h1;cases h1
 |row j n c b h0 h1=>
  simp only[D.off,bne_iff_ne,ne_eq];rintro rfl;rw[hi]at h1;cases h1
 |agg ds vs h1 h2 h3 ih=>simp only[D.off];exact offL_of (w:=w) (g:=g) h1 ih
 |tup ds vs h1 h2 ih=>simp only[D.off];exact offL_of (w:=w) (g:=g) h1 ih
 |fn f ds vs h1 h2 ih=>simp only[D.off];exact offL_of (w:=w) (g:=g) h1 ih
 |_=>rfl
def Rep.drop{w:World}{g g':Gh}{i:Id}(hdl:∀j b,j≠i->g.dl j=some b->g'.dl j=some b)(hG:∀b,g.G b<=g'.G b)(htb:∀j x,g.tb j=some x->g'.tb j=some x){d:D}{v:Value}(h:Rep w g d v)(ho:d.off i=true):Rep w g' d v:=by
 have calm:∀{d:D} {v:Value},Rep w g d v->d.calm=true->Rep w g' d v:=λh hc=>h.calm_to hc (λ_ _=>rfl) hG
 have cf:∀{xs:List D},(∀d∈xs,d.calm=true)->∀d∈flat xs,d.calm=true:=λh9 d hd=>by
  have:=calm_flat h9 d hd
  first|exact this|(cases d<;>simp_all [D.calm,D.calm1])
 induction h with
 |junk v=>exact .junk v
 |bool b=>exact .bool b
 |int k n=>exact .int k n
 |str s=>exact .str s
 |nils t=>exact .nils _
 |slice t xs a n c sz vv h1 h2 h3 h4 h5 h6 h7 h8 h9 ih=>
  refine .slice t xs a n c sz vv h1 h2 h3 h4 h5 (λj d hd=>calm (h6 j d hd) (cf h9 d (Qm hd))) (λh=>Q1 (h7 h) (hG _)) (λht=>?_) h9;obtain⟨q1,q2,q3⟩:=h8 ht;exact⟨q1,q2,htb _ _ q3⟩
 |ptr j o b h1=>exact .ptr j o b (hdl j b (by simpa[D.off]using ho) h1)
 |row j n c b h0 h1=>exact .row j n c b h0 (hdl j b (by simpa[D.off]using ho) h1)
 |eptr ds a vv h1 h2 h3 h4 h5=>exact .eptr ds a vv h1 h2 (λj d hd=>calm (h3 j d hd) (h5 d (Qm hd))) (λh=>Q1 (h4 h) (hG _)) h5
 |nilp=>exact .nilp
 |agg ds vs h1 h2 h3 ih=>
  simp only[D.off,offL_all]at ho;exact .agg _ vs h1 h2 (λj d v hd hv=>ih j d v hd hv (ho d (Qm hd)))
 |tup ds vs h1 h2 ih=>
  simp only[D.off,offL_all]at ho;exact .tup _ vs h1 (λj d v hd hv=>ih j d v hd hv (ho d (Qm hd)))
 |iface t d v h1 h2 ih=>exact .iface t d v h1 (calm h2 h1)
 |nili=>exact .nili
 |fn f ds vs h1 h2 ih=>
  simp only[D.off,offL_all]at ho;exact .fn f _ vs h1 (λj d v hd hv=>ih j d v hd hv (ho d (Qm hd)))
 |nilf=>exact .nilf
 |nilm=>exact .nilm
 |itp j b h1=>exact .itp j b (htb _ _ h1)
def calm_off{i:Id}{d:D}(h:d.calm1=true):d.off i=true:=by
 cases d with
 |fn f cs=>
  have:cs=[]:=by simpa[D.calm1]using h
  subst this;rfl
 |_=>first|rfl|(simp[D.calm1]at h;done)
def upd_old:∀{u:Upd} {m:Mem} {i:Id} {o:Nat} {d:D},(∀p∈u,∀x∈p.2.2,x.calm1=true)->Upd.app m u i o=some d->d.calm1=true∨m i o=some d
 |[],m,i,o,d,_,h=> .inr h
 |(j,k,ds)::u,m,i,o,d,hu,h=>by
  rcases upd_old (u:=u) (λp hp=>hu p (QB _ hp)) h with h1|h1
  ·exact .inl h1
  ·by_cases hc:i=j∧k<=o∧o<k+ds.length
   ·left;have:m.put j k ds i o=ds[o-k]?:=by unfold Mem.put;rw[if_pos hc]
    rw[this]at h1;exact hu _ (QO ..) d (Qm h1)
   ·right;have:m.put j k ds i o=m i o:=by unfold Mem.put;rw[if_neg hc]
    rw[←this];exact h1
def upd_out:∀{u:Upd} {m:Mem} {i:Id} {o:Nat},(∀p∈u,p.1≠i)->Upd.app m u i o=m i o
 |[],m,i,o,_=>rfl
 |(j,k,ds)::u,m,i,o,hu=>by
  have h1:=upd_out (u:=u) (m:=m.put j k ds) (i:=i) (o:=o) (λp hp=>hu p (QB _ hp));have h2:i≠j:=λe=>hu _ (QO ..) e.symm
  exact h1.trans (Mem.put_other h2)
def flat_id:∀{xs:List D},(∀x∈xs,x.cells=[x])->flat xs=xs
 |[],_=>rfl
 |x::r,h=>by
  rw[flat,h x (QO ..),flat_id λy hy=>h y (QB _ hy)];rfl
section
variable{P:Program}{B:Nat}{w0 w:World}{m:Mem}{g:Gh}{S:Summs}{f:FuncId}{N:Nat}{dc:DC}{rs:List RV}
def Gh.settle(g:Gh)(i:Id)(b n:Nat):Gh:={g with dl:=λj=>if j=i then none else g.dl j,G:=λb'=>if b'=b then n else g.G b'}
theorem opn_row (hS : Summs.ok P S) (hf : Fn P f N dc rs) {q : Summ} (hloc : ∀ ds m m' fr, (∀ l ∈ q.rd ds m, m l.1 l.2 = m' l.1 l.2) → q.ex ds m fr = q.ex ds m' fr)
  (hq : ∀ ds m fr r u, q.ex ds m fr = some (r, u) → (∀ i o, fr <:+ i → m i o = none) → ds.length ≤ N ∧ (∀ p ∈ u, ¬ fr <:+ p.1 ∧ ∀ x ∈ p.2.2, x.calm1 = true) ∧ ∃ xs, r = .slice false [] xs ∧ (∀ x ∈ xs, x.calm = true ∧ x.cells = [x]) ∧
   dc.wp S fr (DY rs fun d m' => ∃ i, d = .row i xs.length ∧ fr <:+ i ∧ (∀ (j : Nat) x, xs[j]? = some x → m' i j = some x) ∧ ∀ i o x, Upd.app m u i o = some x → m' i o = some x) ⟨Br ds, m, 0⟩) : q.ok P f := by
 obtain ⟨fn, code, h1, h2, h3, h4, h5, h6⟩ := hf.is
 refine ⟨⟨fn, h1, by rw [h2]; rfl, h3⟩, hloc, ?_⟩
 intro B w0 w m g fr ds vs r u hi hfresh hl hrep hex
 have hfr : ∀ k i, (k :: fr) <:+ i → BR m g i := fun k i h => hfresh i ((Qw k fr).trans h)
 obtain ⟨hN, hu, xs, rfl, hxs, hwp⟩ := hq ds m fr r u hex (fun i o h => (hfresh i h).1 o)
 have hcalls := F8 (ns := fr) hS hf hN hi hfr hl hrep hwp
 refine hcalls.mono ?_
 rintro e w' ⟨v, d, m', g', rfl, hinv, hext, hkeep, hrd, i, rfl, hsuf, hcell, hle⟩
 obtain ⟨b, cap, rfl, hcap, hb⟩ := hrd.row_inv
 obtain ⟨hBb, hGb, cur, T, hheap, hobj⟩ := hinv.obj i b hb
 have hi0 : g.dl i = none := (hfresh i hsuf).2.1
 have hGle : ∀ b', g'.G b' ≤ (g'.settle i b xs.length).G b' := by
  intro b'
  simp only [Gh.settle]
  split
  ·rename_i e; rw [e, hGb]; exact Qq _
  ·exact Qs _
 have hdrop : ∀ {d : D} {v : Value}, Rep w' g' d v → d.off i = true → Rep w' (g'.settle i b xs.length) d v := fun h ho =>
  h.drop (i := i) (fun j b' hj e => by simp only [Gh.settle]; rw [if_neg hj]; exact e) hGle (fun _ _ e => e) ho
 have base := hinv.less hle
 have hnone : ∀ o, Upd.app m u i o = none := fun o => by
  rw [upd_out (fun p hp e => (hu p hp).1 (e ▸ hsuf))]; exact (hfresh i hsuf).1 o
 have hoff : ∀ j o d, Upd.app m u j o = some d → d.off i = true := by
  intro j o d hd
  rcases upd_old (fun p hp => (hu p hp).2) hd with h | h
  ·exact calm_off h
  ·cases hdl : g.dl j with
   | none =>
    have hk := hi.kind j o d h hdl
    cases d <;> first | rfl | cases hk
   | some b' =>
    obtain ⟨_, _, vs', _, _, hr⟩ := hi.obj j b' hdl
    obtain ⟨v', _, _, hr'⟩ := hr o d h
    exact hr'.off hi0
 have hfin : InvM P B w0 (Upd.app m u) w' (g'.settle i b xs.length) := by
  refine ⟨hinv.below, hinv.size, fun b' hb' => ?_, fun b' hb' => ?_, fun j b' hj => ?_, fun j j' b' e1 e2 => ?_, fun j o d hm hn => ?_, fun j e hm => ?_, base.tinj, base.itr.to (fun _ _ _ e => e) fun j b1 s p _ _ _ e1 e2 e3 => ?_⟩
  rotate_right
  ·have hbb : b1 ≠ b := fun e' => e3 i (e' ▸ hb)
   refine ⟨rfl, rfl, by simp only [Gh.settle]; rw [if_neg hbb]; exact e2, fun i' h' => ?_⟩
   simp only [Gh.settle] at h'
   split at h'
   ·cases h'
   ·exact e3 i' h'
  ·simp only [Gh.settle]
   have : b < w'.heap.size := (QA.1 hheap).1
   rw [if_neg (by omega)]; exact hinv.gz b' hb'
  ·simp only [Gh.settle]; rw [if_neg (by omega)]; exact hinv.old b' hb'
  ·simp only [Gh.settle] at hj
   split at hj
   ·cases hj
   ·rename_i hne
    obtain ⟨p, q, vs', T', hh, r⟩ := base.obj j b' hj
    have hbb : b' ≠ b := fun e => hne (hinv.inj j i b (e ▸ hj) hb)
    refine ⟨p, by simp only [Gh.settle]; rw [if_neg hbb]; exact q, vs', T', hh, fun o d hm => ?_⟩
    obtain ⟨v', r1, r2, r3⟩ := r o d hm
    exact ⟨v', r1, r2, hdrop r3 (hoff j o d hm)⟩
  ·simp only [Gh.settle] at e1 e2
   split at e1
   ·cases e1
   ·split at e2
    ·cases e2
    ·exact hinv.inj j j' b' e1 e2
  ·by_cases hji : j = i
   ·subst hji; rw [hnone o] at hm; cases hm
   ·simp only [Gh.settle, if_neg hji] at hn
    exact base.kind j o d hm hn
  ·obtain ⟨b1, n, c, sz, cur', t1, t2, t3, t4, t5, t6, t7, t8, t9, t10⟩ := base.tok j e hm
   have hbb : b1 ≠ b := fun e' => t10 i (e' ▸ hb)
   refine ⟨b1, n, c, sz, cur', t1, t2, t3, t4, t5, t6, t7, t8, by simp only [Gh.settle]; rw [if_neg hbb]; exact t9, fun i' h' => ?_⟩
   simp only [Gh.settle] at h'
   split at h'
   ·cases h'
   ·exact t10 i' h'
 have hvl : ∀ (j : Nat), j < xs.length → ∃ v, cur[j]? = some v ∧ v.oneCell' = true ∧ ∃ x, xs[j]? = some x ∧ Rep w' g' x v := by
  intro j hj
  obtain ⟨v', r1, r2, r3⟩ := hobj j xs[j] (hcell j _ (Qe hj))
  exact ⟨v', r1, r2, _, Qe hj, r3⟩
 have hsz : xs.length ≤ cur.size := by
  rcases Nat.eq_zero_or_pos xs.length with h | h
  ·omega
  ·obtain ⟨v', r1, _⟩ := hvl (xs.length - 1) (by omega)
   have := (QA.1 r1).1
   omega
 have hcalm : ∀ x ∈ xs, x.calm = true := fun x hx => (hxs x hx).1
 have hfl : flat xs = xs := flat_id fun x hx => (hxs x hx).2
 have hreps : A3 w' (g'.settle i b xs.length) (flat xs) (cur.toList.take xs.length) := by
  rw [hfl]
  refine ⟨by simp; omega, fun v hv => ?_, fun j x v hx hv => ?_⟩
  ·obtain ⟨j, hj, rfl⟩ := Q_ hv
   have hj' : j < xs.length := Q3 hj (Zd _ _)
   obtain ⟨v', r1, r2, _⟩ := hvl j hj'
   have : (cur.toList.take xs.length)[j]? = some v' := by rw [Qu hj']; simpa using r1
   rw [Qe hj] at this
   rw [QG this]; exact r2
  ·have hj' : j < xs.length := (QJ.1 hx).1
   obtain ⟨v', r1, r2, x', hx', r3⟩ := hvl j hj'
   rw [hx] at hx'; obtain rfl := QG hx'
   have : (cur.toList.take xs.length)[j]? = some v' := by rw [Qu hj']; simpa using r1
   rw [hv] at this; obtain rfl := QG this
   exact r3.calm_to (hcalm x (Qm hx)) (fun _ _ => rfl) hGle
 refine ⟨_, g'.settle i b xs.length, rfl, hfin, ⟨hext.cell, fun b' => Q1 (hext.G b') (hGle b'), fun j b' hj => ?_, hext.G0, hext.tb⟩, ?_, fun j hf hn => ?_⟩
 ·simp only [Gh.settle]
  rw [if_neg (fun e => by rw [e, hi0] at hj; cases hj)]; exact hext.dl j b' hj
 ·refine Rep.ofRow (sz := 1) (cur := cur) (vs := cur.toList.take xs.length) hheap rfl hcap (fun d hd => by rw [(hxs d hd).2]; rfl) hreps (fun j v hv => ?_) (by simp [Gh.settle]) (fun h => absurd rfl h) hcalm
  have hj : j < xs.length := Q3 (QJ.1 hv).1 (Zd _ _)
  rw [Qu hj] at hv
  simpa using hv
 ·obtain ⟨k1, k2, k3⟩ := hkeep j hf hn
  refine ⟨fun o => ?_, ?_, k3⟩
  ·cases hx : Upd.app m u j o with
   | none => rfl
   | some x => exact absurd (k1 o) (by rw [hle j o x hx]; simp)
  ·simp only [Gh.settle]
   split
   ·rfl
   ·exact k2
end
end Go.Vd
namespace Go.Vd
open Go.Proofs
def dc409:=y0 f409 [] []
def fn409:Fn Qc 409 35 dc409 [.t 2]:=Am func409
def dc395l0:=y1 f395 5 [] []
def dc395:=y0 f395 [] [(5,dc395l0)]
def fn395:Fn Qc 395 32 dc395 [.t 2]:=Am func395
def dc360l0:=y1 f360 3 [] []
def dc360:=y0 f360 [] [(3,dc360l0)]
def fn360:Fn Qc 360 27 dc360 [.t 2]:=Am func360
def dc300:=y0 f300 [] []
def fn300:Fn Qc 300 17 dc300 [.t 2,.t 3]:=Am func300
def dc201:=y0 f201 [] []
def fn201:Fn Qc 201 11 dc201 [.t 2]:=Am func201
def dc367:=y0 f367 [] []
def fn367:Fn Qc 367 45 dc367 [.t 2]:=Am func367
def dc398:=y0 f398 [] []
def fn398:Fn Qc 398 10 dc398 [.t 4]:=Am func398
def dc397:=y0 f397 [] []
def fn397:Fn Qc 397 21 dc397 [.t 4]:=Am func397
def dc366:=y0 f366 [] []
def fn366:Fn Qc 366 134 dc366 [.t 4,.t 5]:=Am func366
def dc313l0:=y1 f313 5 [] []
def dc313:=y0 f313 [] [(5,dc313l0)]
def fn313:Fn Qc 313 41 dc313 [.t 2]:=Am func313
def dc312l0:=y1 f312 4 [] []
def dc312:=y0 f312 [] [(4,dc312l0)]
def fn312:Fn Qc 312 32 dc312 [.t 2]:=Am func312
def dc211l0:=y1 f211 6 [] []
def dc211:=y0 f211 [] [(6,dc211l0)]
def fn211:Fn Qc 211 34 dc211 [.t 2]:=Am func211
end Go.Vd
namespace Go.Vd
open Go.Proofs Go.RowKit
def AK{P:Program}:Summs.ok P (λ_=>none):=λf q h=>by cases h
def Db(c:Int):Bool:=decide (97<=c∧c<=122)||decide (65<=c∧c<=90)||decide (48<=c∧c<=57)||decide (c=45)||decide (c=46)||decide (c=95)||decide (192<=c∧c<=55295)
def F409:List D->Option D
 |[.int .i32 c]=>some (.bool (Db c))
 |_=>none
def ok409:(Ac F409).ok Qc 409:=by
 refine Az (S:=λ_=>none) AK fn409 (λds r h=>?_) (λds r h=>?_)
 ·unfold F409 at h;split at h
  ·simp
  ·cases h
 ·unfold F409 at h;split at h
  ·rename_i c;simp only[Qb]at h;subst h;unfold dc409;simp only[↓go1,go2,simprocAttr]
   repeat' (first|(refine ifQ.intro (λh=>?_) (λh=>?_)<;>try (exfalso;omega))|(simp only[↓go1,gB2,simprocAttr, *]))
   all_goals (rw[D.bool.injEq,Qr];simp[Db];try omega)
  ·cases h
def F367:List D->Option D
 |[.int .i64 c]=>some (.bool (Db c))
 |_=>none
def ok367:(Ac F367).ok Qc 367:=by
 refine Az (S:=λ_=>none) AK fn367 (λds r h=>?_) (λds r h=>?_)
 ·unfold F367 at h;split at h
  ·simp
  ·cases h
 ·unfold F367 at h;split at h
  ·rename_i c;simp only[Qb]at h;subst h;unfold dc367;simp only[↓go1,go2,simprocAttr]
   repeat' (first|(refine ifQ.intro (λh=>?_) (λh=>?_)<;>try (exfalso;omega))|(simp only[↓go1,gB2,simprocAttr, *]))
   all_goals (rw[D.bool.injEq,Qr];simp[Db];try omega)
  ·cases h
def w64{x:Int}(h1:-9223372036854775808<=x)(h2:x<9223372036854775808):IntKind.i64.wrap x=x:=IntWalk.i64_in _ ⟨h1,by omega⟩
def wJ{j:Nat}(h:j<4611686018427387904):IntKind.i64.wrap ((j:Int)+1)=((j+1:Nat):Int):=w64 (by omega) (by omega)
def nJ{j:Nat}:(0:Int)<=(j:Int):=by omega
abbrev Bs:=List UInt8
def at'(s:Bs)(i:Nat):Nat:=(s.getD i 0).toNat
def at_lt(s:Bs)(i:Nat):at' s i<256:=UInt8.toNat_lt _
def at_some{s:Bs}{i:Nat}(h:i<s.length):∃c,s[i]?=some c∧at' s i=c.toNat:=⟨s[i],Qe h,by simp[at',h]⟩
def CA(s:Bs)(i:Nat):Bool:=decide (i<s.length)&&decide (128<=at' s i)&&decide (at' s i<192)
def F397:List D->Option D
 |[.str s,.int .i64 i]=>if 0<=i then some (.bool (CA s i.toNat))else none
 |_=>none
def ok397:(Ac F397).ok Qc 397:=by
 refine Az (S:=λ_=>none) AK fn397 (λds r h=>?_) (λds r h=>?_)
 ·unfold F397 at h;split at h
  ·simp
  ·cases h
 ·unfold F397 at h;split at h
  ·rename_i s i;split at h
   ·rename_i h0;simp only[Qb]at h;subst h;obtain⟨i,rfl⟩:=Ql h0;unfold dc397;by_cases hi:i<s.length
    ·obtain⟨c,hc,hc2⟩:=at_some hi;have hi':((i:Int)<s.length):=by omega
     simp only[↓go1,go2,go4,simprocAttr,hi',h0,Qd,hc]
     repeat' (first|(refine ifQ.intro (λh=>?_) (λh=>?_)<;>try (exfalso;omega))|(simp only[↓go1,gB2,simprocAttr, *,Qd]))
     all_goals (rw[D.bool.injEq,Qr];simp[CA,hi,hc2];try omega)
    ·have hi':¬((i:Int)<s.length):=by omega
     simp only[↓go1,gB2,simprocAttr,hi',Qd];simp[CA,hi]
   ·cases h
  ·cases h
def F398:List D->Option D
 |[.str s,.int .i64 i]=>if 0<=i∧i<s.length then some (.int .i64 ((at' s i.toNat:Int)-128))else none
 |_=>none
def ok398:(Ac F398).ok Qc 398:=by
 refine Az (S:=λ_=>none) AK fn398 (λds r h=>?_) (λds r h=>?_)
 ·unfold F398 at h;split at h
  ·simp
  ·cases h
 ·unfold F398 at h;split at h
  ·rename_i s i;split at h
   ·rename_i h0;simp only[Qb]at h;subst h;obtain⟨h0,hi⟩:=h0;obtain⟨i,rfl⟩:=Ql h0;unfold dc398;obtain⟨c,hc,hc2⟩:=at_some (s:=s) (i:=i) (by omega);have:=at_lt s i;have w1:IntKind.i64.wrap ((at' s i:Nat):Int)=at' s i:=w64 (by omega) (by omega);have w2:IntKind.i64.wrap ((at' s i:Int)-128)=(at' s i:Int)-128:=w64 (by omega) (by omega);simp only[↓go1,gB2,simprocAttr,h0,Qd,hc,←hc2,w1,w2]
   ·cases h
  ·cases h
def AF:List (FuncId×Summ)->Summs
 |[],_=>none
 |(k,q)::r,f=>if f=k then some q else AF r f
def A6{P:Program}{l:List (FuncId×Summ)}(h:Summs.ok P (AF l)):∃S:Summs,Summs.ok P S∧∀f q,AF l f=some q->S f=some q:=⟨_,h,λ_ _ e=>e⟩
def Ad{P:Program}:Summs.ok P (AF []):=λf q h=>by cases h
def Ab{P:Program}{k:FuncId}{q:Summ}{r:List (FuncId×Summ)}(h:q.ok P k)(hr:Summs.ok P (AF r)):Summs.ok P (AF ((k,q)::r)):=λf q' e=>by
 simp only[AF]at e;split at e
 ·rename_i hf;subst hf;simp only[Qb]at e;subst e;exact h
 ·exact hr f q' e
def CI(s:Bs)(i:Nat):Int×Nat:=
 let b:=at' s i
 if b<128 then(b,1)
 else if 192<=b∧b<224∧CA s (i+1)=true∧128<=64*((b:Int)-192)+(at' s (i+1)-128)then(64*((b:Int)-192)+(at' s (i+1)-128),2)
 else if 224<=b∧b<240∧CA s (i+1)=true∧CA s (i+2)=true∧2048<=4096*((b:Int)-224)+64*(at' s (i+1)-128)+(at' s (i+2)-128)∧
   (4096*((b:Int)-224)+64*(at' s (i+1)-128)+(at' s (i+2)-128)<55296∨57343<4096*((b:Int)-224)+64*(at' s (i+1)-128)+(at' s (i+2)-128))then
  (4096*((b:Int)-224)+64*(at' s (i+1)-128)+(at' s (i+2)-128),3)
 else if 240<=b∧b<248∧CA s (i+1)=true∧CA s (i+2)=true∧CA s (i+3)=true∧65536<=262144*((b:Int)-240)+4096*(at' s (i+1)-128)+64*(at' s (i+2)-128)+(at' s (i+3)-128)∧
   262144*((b:Int)-240)+4096*(at' s (i+1)-128)+64*(at' s (i+2)-128)+(at' s (i+3)-128)<=1114111 then
  (262144*((b:Int)-240)+4096*(at' s (i+1)-128)+64*(at' s (i+2)-128)+(at' s (i+3)-128),4)
 else(-1,1)
def Cs{s:Bs}{i:Nat}:CA s i=true↔i<s.length∧128<=at' s i∧at' s i<192:=by simp[CA,and_assoc]
def F366:List D->Option D
 |[.str s,.int .i64 i]=>if 0<=i∧i<s.length∧s.length<=1000000 then some (.tup [.int .i64 (CI s i.toNat).1,.int .i64 ((CI s i.toNat).2:Nat)])else none
 |_=>none
def ok366:(Ac F366).ok Qc 366:=by
 obtain⟨S,hS,hl⟩:=A6 (Ab ok397 (Ab ok398 Ad));have s397:=hl 397 _ rfl;have s398:=hl 398 _ rfl;clear hl;refine Az (S:=S) hS fn366 (λds r h=>?_) (λds r h=>?_)
 ·unfold F366 at h;split at h
  ·simp
  ·cases h
 ·unfold F366 at h;split at h
  ·rename_i s i;split at h
   ·rename_i h0;simp only[Qb]at h;subst h;obtain⟨h0,hi,hl⟩:=h0;obtain⟨i,rfl⟩:=Ql h0;obtain⟨c,hc,hc2⟩:=at_some (s:=s) (i:=i) (by omega);have b0:=at_lt s i;have b1:=at_lt s (i+1);have b2:=at_lt s (i+2);have b3:=at_lt s (i+3);have hF:∀k:Nat,F397 [.str s,.int .i64 ((i:Int)+(k:Int))]=some (.bool (CA s (i+k))):=by
     intro k;simp only[F397];rw[if_pos (by omega)];congr 3
    have hF1:=hF 1;have hF2:=hF 2;have hF3:=hF 3;have hG:∀k:Nat,i+k<s.length->F398 [.str s,.int .i64 ((i:Int)+(k:Int))]=some (.int .i64 ((at' s (i+k):Int)-128)):=by
     intro k hk;simp only[F398];rw[if_pos (by omega)];congr 3
    have hG1:=hG 1;have hG2:=hG 2;have hG3:=hG 3;have t1:=@Cs s (i+1);have t2:=@Cs s (i+2);have t3:=@Cs s (i+3);have w1:IntKind.i64.wrap ((i:Int)+1)=(i:Int)+1:=w64 (by omega) (by omega);have w2:IntKind.i64.wrap ((i:Int)+2)=(i:Int)+2:=w64 (by omega) (by omega);have w3:IntKind.i64.wrap ((i:Int)+3)=(i:Int)+3:=w64 (by omega) (by omega);have w0:IntKind.i64.wrap ((c.toNat:Nat):Int)=at' s i:=by rw[←hc2];exact w64 (by omega) (by omega)
    clear hF hG;generalize e1:CA s (i+1)=u1 at *;generalize e2:CA s (i+2)=u2 at *;generalize e3:CA s (i+3)=u3 at *;simp only[Int.cast_ofNat_Int]at hF1 hF2 hF3 hG1 hG2 hG3;have hnext:CI s ((i:Int)).toNat=CI s i:=rfl;rw[hnext];unfold CI;rw[e1,e2,e3];generalize at' s i=x0 at *;generalize at' s (i+1)=x1 at *;generalize at' s (i+2)=x2 at *;generalize at' s (i+3)=x3 at *;unfold dc366;simp only[↓go1,go2,simprocAttr,h0,Qd,hc,w0];have g1:=λh=>hG1 (t1.mp h).1
    have g2:=λh=>hG2 (t2.mp h).1
    have g3:=λh=>hG3 (t3.mp h).1
    clear t1 t2 t3 hG1 hG2 hG3 hnext e1 e2 e3
    repeat' (first|(refine ifQ.intro (λh=>?_) (λh=>?_)<;>try (exfalso;omega))|(simp (disch:=first|assumption|omega)only[↓go1,gB2,simprocAttr,hF1,hF2,hF3,g1,g2,g3,w1,w2,w3,h,Aa s397,Aa s398,w64]))
    all_goals
     clear g1 g2 g3 hF1 hF2 hF3 w0 w1 w2 w3 s397 s398 hS;simp only[D.tup.injEq,QZ,D.int.injEq,true_and,and_true]
     (repeat' split)<;>first|(constructor<;>rfl)|(exfalso;simp_all;omega)|(exfalso;simp_all;done)|(exfalso;omega)
   ·cases h
  ·cases h
def get_at(s:Bs)(i:Nat):((ByteArray.mk s.toArray).get! i).toNat=at' s i:=by
 have:(ByteArray.mk s.toArray).get! i=s.toArray[i]!:=rfl;rw[this];unfold at';by_cases h:i<s.length
 ·simp[h]
 ·simp[h];rfl
def size_at(s:Bs):(ByteArray.mk s.toArray).size=s.length:=by simp[ByteArray.size]
def dec_next(s:Bs)(i:Nat)(hi:i<s.length):(Utf8.decode ⟨s.toArray⟩ i).2=(CI s i).2∧Db ((Utf8.decode ⟨s.toArray⟩ i).1:Nat)=Db (CI s i).1:=by
 have b0:=at_lt s i;have b1:=at_lt s (i+1);have b2:=at_lt s (i+2);have b3:=at_lt s (i+3);have t1:(decide (i+1<s.length)&&(at' s (i+1) / 64==2))=CA s (i+1):=by
  rw[Qr];simp[CA];omega
 have t2:(decide (i+2<s.length)&&(at' s (i+2) / 64==2))=CA s (i+2):=by
  rw[Qr];simp[CA];omega
 have t3:(decide (i+3<s.length)&&(at' s (i+3) / 64==2))=CA s (i+3):=by
  rw[Qr];simp[CA];omega
 have c1:=@Cs s (i+1);have c2:=@Cs s (i+2);have c3:=@Cs s (i+3);unfold Utf8.decode CI;simp only[get_at,size_at,Zg,t1,t2,t3];generalize CA s (i+1)=u1 at *;generalize CA s (i+2)=u2 at *;generalize CA s (i+3)=u3 at *;generalize at' s i=x0 at *;generalize at' s (i+1)=x1 at *;generalize at' s (i+2)=x2 at *;generalize at' s (i+3)=x3 at *;clear t1 t2 t3;have bad:Db ((Utf8.runeError:Nat):Int)=Db (-1):=by decide
 have val:∀c:Nat,Utf8.valid (c:Int)=true↔(c<55296∨(57344<=c∧c<=1114111)):=by
  intro c;simp[Utf8.valid];omega
 have q1:(x0 / 32==6)=decide (192<=x0∧x0<224):=by rw[Qr];simp;omega
 have q2:(x0 / 16==14)=decide (224<=x0∧x0<240):=by rw[Qr];simp;omega
 have q3:(x0 / 8==30)=decide (240<=x0∧x0<248):=by rw[Qr];simp;omega
 simp only[q1,q2,q3,QV,decide_eq_true_eq,val,ge_iff_le];clear q1 q2 q3 val;cases u1<;>cases u2<;>cases u3<;>simp only[QF,and_false,false_and,if_false,and_true,true_and,false_iff,true_iff]at c1 c2 c3 ⊢
 all_goals (repeat' split)<;>first|exact⟨rfl,bad⟩|exact⟨rfl,rfl⟩|(exfalso;omega)|(refine⟨rfl,?_⟩;congr 1;omega)
def next_le(s:Bs)(i:Nat)(hi:i<s.length):1<=(CI s i).2∧i+(CI s i).2<=s.length:=by
 unfold CI;simp only[Cs]
 (repeat' split)<;>simp only<;>omega
def C9(s:Bs):Nat->Nat->Nat->Int
 |0,_,n=>if 12<n then 5 else 0
 |f+1,p,n=>if p<s.length then(if Db (CI s p).1=true then C9 s f (p+(CI s p).2) (n+1)else 4)else if 12<n then 5 else 0
def Et(s:Bs):Int:=if s=[]∨s=[46]∨s=[46,46]∨s=[45]then 4 else C9 s s.length 0 0
def F313:List D->Option D
 |[.str s]=>if s.length<=1000000 then some (.int .i64 (Et s))else none
 |_=>none
def loop313{S:Summs}{ns:Id}{s:Bs}{e:Int}{Q:Ex->St->Prop}(hb:s.length<=1000000)(s366:S 366=some (Ac F366))(s367:S 367=some (Ac F367))
  (hret:∀st,e=4->st.s 2= .int .i64 4->Q .ret st) (hexit:∀st (n:Nat),(if 12<n then(5:Int)else 0)=e->st.s 3= .int .i64 (n:Int)->Q (.exit 0) st):
  ∀(f p n:Nat) st g,s.length<=p+f->p<=s.length->n<=p->C9 s f p n=e->st.s 0= .str s->st.s 3= .int .i64 (n:Int)->st.s 4= .int .i64 (p:Int)->A4 S ns dc313l0 Q st g:=by
 intro f;induction f with
 |zero=>
  intro p n st g hf hp hn he h0 h3 h4;refine Ae dc313l0.eq_1 ?_;have:¬((p:Int)<s.length):=by omega
  simp only[↓go1,go2,go4,simprocAttr,h4,h0,this];exact hexit _ n he (by simp only[↓go1,reduceIte,Qn,h3])
 |succ f ih=>
  intro p n st g hf hp hn he h0 h3 h4;refine Ae dc313l0.eq_1 ?_;unfold C9 at he;by_cases hlt:p<s.length
  ·rw[if_pos hlt]at he;have hlt':((p:Int)<s.length):=by omega
   obtain⟨n1,n2⟩:=next_le s p hlt;have hF:F366 [.str s,.int .i64 (p:Int)]=some (.tup [.int .i64 (CI s p).1,.int .i64 ((CI s p).2:Nat)]):=by
    simp only[F366];rw[if_pos (by omega)];rfl
   have hG:F367 [.int .i64 (CI s p).1]=some (.bool (Db (CI s p).1)):=rfl;generalize CI s p=r at *;have w1:IntKind.i64.wrap ((n:Int)+1)=((n+1:Nat):Int):=w64 (by omega) (by omega);have w2:IntKind.i64.wrap ((p:Int)+(r.2:Nat))=((p+r.2:Nat):Int):=w64 (by omega) (by omega);cases ho:Db r.1 with
   |true=>
    rw[if_pos ho]at he;simp only[↓go1,gB2,simprocAttr,h4,h0,h3,hlt',Aa s366,Aa s367,hF,hG,ho,w1,w2];exact ih _ _ _ _ (by omega) (by omega) (by omega) he h0 rfl rfl
   |false=>
    rw[if_neg (by rw[ho];simp)]at he;simp only[↓go1,gB2,simprocAttr,h4,h0,hlt',Aa s366,Aa s367,hF,hG,ho];exact hret _ he.symm rfl
  ·rw[if_neg hlt]at he;have hlt':¬((p:Int)<s.length):=by omega
   simp only[↓go1,go2,go4,simprocAttr,h4,h0,hlt'];exact hexit _ n he (by simp only[↓go1,reduceIte,Qn,h3])
def ok313:(Ac F313).ok Qc 313:=by
 obtain⟨S,hS,hl⟩:=A6 (Ab ok366 (Ab ok367 Ad));have s366:=hl 366 _ rfl;have s367:=hl 367 _ rfl;clear hl;refine Az (S:=S) hS fn313 (λds r h=>?_) (λds r h=>?_)
 ·unfold F313 at h;split at h
  ·simp
  ·cases h
 ·unfold F313 at h;split at h
  ·rename_i s;split at h
   ·rename_i hb;simp only[Qb]at h;subst h;unfold dc313 Et;by_cases hs:s=[]∨s=[46]∨s=[46,46]∨s=[45]
    ·rw[if_pos hs];rcases hs with rfl|rfl|rfl|rfl<;>simp only[↓go1,gB2,simprocAttr,QZ,show((45:UInt8)=46)=False by decide,and_false,and_self]
    ·rw[if_neg hs];obtain⟨a1,a2,a3,a4⟩:s≠[]∧s≠[46]∧s≠[46,46]∧s≠[45]:=by simp only[not_or]at hs;exact hs
     have a1':(s=[])=False:=eq_false a1;have a2':(s=[46])=False:=eq_false a2;have a3':(s=[46,46])=False:=eq_false a3;have a4':(s=[45])=False:=eq_false a4;simp only[↓go1,go2,go4,simprocAttr,a1',a2',a3',a4'];refine loop313 (e:=C9 s s.length 0 0) hb s366 s367 (λst h1 h2=>?_) (λst n h1 h2=>?_) s.length 0 0 _ _ (by omega) (by omega) (by omega) rfl rfl rfl rfl
     ·simp only[↓go1,gB2,h2,h1]
     ·rw[←h1];have c1:((12:Int)<(n:Int))=(12<n):=by simp only[eq_iff_iff];omega
      simp only[↓go1,go2,simprocAttr,h2,c1];refine ifQ.intro (λh=>?_) (λh=>?_)<;>simp only[↓go1,gB2,simprocAttr,h]
   ·cases h
  ·cases h
def F395:List D->Option D
 |[.str s]=>if s.length<=1000000 then some (.int .i64 (Et s))else none
 |_=>none
def loop395{S:Summs}{ns i:Id}{s:Bs}{e:Int}{Q:Ex->St->Prop}(hb:s.length<=1000000)(s409:S 409=some (Ac F409))
  (hret:∀st,e=4->st.s 2= .int .i64 4->Q .ret st) (hexit:∀st (n:Nat),(if 12<n then(5:Int)else 0)=e->st.s 3= .int .i64 (n:Int)->Q (.exit 0) st):
  ∀(f p n:Nat) st g,s.length<=p+f->p<=s.length->n<=p->C9 s f p n=e->st.s 21= .itp i->st.m i 1=some (.it s p)->st.s 3= .int .i64 (n:Int)->A4 S ns dc395l0 Q st g:=by
 intro f;induction f with
 |zero=>
  intro p n st g hf hp hn he h0 hm h3;refine Ae dc395l0.eq_1 ?_;have:¬(p<s.length):=by omega
  simp only[↓go1,go2,go4,simprocAttr,hm,h0,this];exact hexit _ n he (by simp only[↓go1,reduceIte,Qn,h3])
 |succ f ih=>
  intro p n st g hf hp hn he h0 hm h3;refine Ae dc395l0.eq_1 ?_;unfold C9 at he;by_cases hlt:p<s.length
  ·rw[if_pos hlt]at he;obtain⟨n1,n2⟩:=next_le s p hlt;obtain⟨d1,d2⟩:=dec_next s p hlt;rw[←d1]at he n1 n2;rw[←d2]at he;have hG:F409 [.int .i32 ((Utf8.decode ⟨s.toArray⟩ p).1:Nat)]=some (.bool (Db ((Utf8.decode ⟨s.toArray⟩ p).1:Nat))):=rfl;have w1:IntKind.i64.wrap ((n:Int)+1)=((n+1:Nat):Int):=w64 (by omega) (by omega);cases ho:Db ((Utf8.decode ⟨s.toArray⟩ p).1:Nat)with
   |true=>
    rw[if_pos ho]at he;simp only[↓go1,gB2,simprocAttr,hm,h0,h3,hlt,Aa s409,hG,ho,w1];exact ih _ _ _ _ (by omega) (by omega) (by omega) he h0 (by simp only[];rw[Fh,if_pos ⟨rfl,rfl⟩]) rfl
   |false=>
    rw[if_neg (by rw[ho];simp)]at he;simp only[↓go1,gB2,simprocAttr,hm,h0,hlt,Aa s409,hG,ho];exact hret _ he.symm rfl
  ·rw[if_neg hlt]at he;simp only[↓go1,go2,go4,simprocAttr,hm,h0,hlt];exact hexit _ n he (by simp only[↓go1,reduceIte,Qn,h3])
def ok395:(Ac F395).ok Qc 395:=by
 obtain⟨S,hS,hl⟩:=A6 (Ab ok409 Ad);have s409:=hl 409 _ rfl;clear hl;refine Az (S:=S) hS fn395 (λds r h=>?_) (λds r h=>?_)
 ·unfold F395 at h;split at h
  ·simp
  ·cases h
 ·unfold F395 at h;split at h
  ·rename_i s;split at h
   ·rename_i hb;simp only[Qb]at h;subst h;unfold dc395 Et;by_cases hs:s=[]∨s=[46]∨s=[46,46]∨s=[45]
    ·rw[if_pos hs];rcases hs with rfl|rfl|rfl|rfl<;>simp only[↓go1,gB2,simprocAttr,QZ,show((45:UInt8)=46)=False by decide,and_false,and_self]
    ·rw[if_neg hs];obtain⟨a1,a2,a3,a4⟩:s≠[]∧s≠[46]∧s≠[46,46]∧s≠[45]:=by simp only[not_or]at hs;exact hs
     have a1':(s=[])=False:=eq_false a1;have a2':(s=[46])=False:=eq_false a2;have a3':(s=[46,46])=False:=eq_false a3;have a4':(s=[45])=False:=eq_false a4;simp only[↓go1,go2,go4,simprocAttr,a1',a2',a3',a4'];refine loop395 (e:=C9 s s.length 0 0) hb s409 (λst h1 h2=>?_) (λst n h1 h2=>?_) s.length 0 0 _ _ (by omega) (by omega) (by omega) rfl rfl (by simp only[];rw[Fh,if_pos ⟨rfl,rfl⟩]) rfl
     ·simp only[↓go1,gB2,h2,h1]
     ·rw[←h1];have c1:((12:Int)<(n:Int))=(12<n):=by simp only[eq_iff_iff];omega
      simp only[↓go1,go2,simprocAttr,h2,c1];refine ifQ.intro (λh=>?_) (λh=>?_)<;>simp only[↓go1,gB2,simprocAttr,h]
   ·cases h
  ·cases h
end Go.Vd
namespace Go.Vd
open Go.RowKit
def splitC(q:UInt8):Bs->List Bs
 |[]=>[[]]
 |c::r=>if c=q then []::splitC q r else match splitC q r with
  |h::t=>(c::h)::t
  |[]=>[[c]]
def splitB_ne{q:UInt8}:∀s,splitC q s≠[]
 |[]=>by simp[splitC]
 |c::r=>by
  unfold splitC;split
  ·simp
  ·split<;>simp
def split_word{q:UInt8}{w:Bs}(h:q∉w):∀s,splitC q (w++q::s)=w::splitC q s:=by
 induction w with
 |nil=>intro s;simp[splitC]
 |cons c r ih=>
  intro s;simp only[QN,not_or]at h;simp only[Q6,splitC];rw[if_neg (λe=>h.1 e.symm),ih h.2]
def split_one{q:UInt8}{w:Bs}(h:q∉w):splitC q w=[w]:=by
 induction w with
 |nil=>rfl
 |cons c r ih=>
  simp only[QN,not_or]at h;simp only[splitC];rw[if_neg (λe=>h.1 e.symm),ih h.2]
def Gw(m:Mem)(c e:Nat)(nl:Bool)(t:Id):Prop:=nl=true∨∃j,t=[j]∧j<c∧m t 0=some (.tok (e+1))
def Gw.grow{m:Mem}{c e c' x:Nat}{nl:Bool}{t:Id}{xs:List D}(h:Gw m c e nl t)(hc:c<=c'):Grow (m.put [c'] 0 [.tok x]) e (.slice nl t xs):=by
 rcases h with h|⟨j,rfl,h1,h2⟩
 ·exact .inl h
 ·refine .inr ⟨?_,by simp⟩;rw[Mem.put_other (by simp;omega)];exact h2
def Gw.new{m:Mem}{c e c':Nat}{nl:Bool}{t:Id}{xs:List D}(hc:c'<c):Gw (Upd.app m (Bi e [c'] (.slice nl t xs))) c e false [c']:=by
 refine .inr ⟨c',rfl,hc,?_⟩;cases nl<;>simp[Bi,Upd.app,Bf]
def Gw.more{m:Mem}{c c' e:Nat}{nl:Bool}{t:Id}(h:Gw m c e nl t)(hc:c<=c'):Gw m c' e nl t:=by
 rcases h with h|⟨j,h1,h2,h3⟩
 ·exact .inl h
 ·exact .inr ⟨j,h1,by omega,h3⟩
def Gw.put{m:Mem}{c e c' o:Nat}{nl:Bool}{t:Id}{ds:List D}(h:Gw m c e nl t)(hc:c<=c'):Gw (m.put [c'] o ds) c e nl t:=by
 rcases h with h|⟨j,rfl,h1,h2⟩
 ·exact .inl h
 ·refine .inr ⟨j,rfl,h1,?_⟩;rw[Mem.put_other (by simp;omega)];exact h2
def Gw.toGrow{m:Mem}{c e:Nat}{nl:Bool}{t:Id}{xs:List D}(h:Gw m c e nl t):Grow m e (.slice nl t xs):=by
 rcases h with h|⟨j,rfl,h1,h2⟩
 ·exact .inl h
 ·exact .inr ⟨h2,by simp⟩
def Gj:List D->Option (List Bs)
 |[]=>some []
 | .str s::r=>(Gj r).map (s::·)
 |_=>none
def Fd:∀{xs:List D} {l:List Bs},Gj xs=some l->xs=l.map .str
 |[],l,h=>by simp only[Gj,Qb]at h;subst h;rfl
 |x::r,l,h=>by
  unfold Gj at h;split at h
  ·rename_i h0;cases h0
  ·rename_i s r' h0;simp only[QZ]at h0;obtain⟨rfl,rfl⟩:=h0;rw[Qf]at h;obtain⟨l',h1,rfl⟩:=h;rw[Fd h1];rfl
  ·cases h
def Gi:∀l:List Bs,Gj (l.map .str)=some l
 |[]=>rfl
 |i::r=>by simp only[QM,Gj];rw[Gi r];rfl
def strs_all:∀l:List Bs,(l.map D.str).all isStrD=true
 |[]=>rfl
 |w::r=>by
  show(isStrD (.str w)&&_)=true;rw[strs_all r];rfl
end Go.Vd
namespace Go.Proofs
open Go.Shelf Go.RowKit Go.Lib
variable{P:Program}{ρ:Ren}
def indexByte_hit{c:UInt8}{r:List UInt8}:∀{w:List UInt8},c∉w->Lib.indexByte (w++c::r) c=w.length
 |[],_=>by simp[Lib.indexByte]
 |b::w,h=>by
  simp only[QN,not_or]at h;have ih:=indexByte_hit (r:=r) h.2;have hb:(b==c)=false:=beq_eq_false_iff_ne.2 (λe=>h.1 e.symm);have h1:((w.length:Int)==-1)=false:=beq_eq_false_iff_ne.2 (by omega);rw[Q6,Lib.indexByte,hb,ih,h1];simp
def splitK_eq(q:UInt8):∀(n:Nat)(s:List UInt8),s.length<=n->Lib.splitK [q] 0 (s.count q) s=Go.Vd.splitC q s:=by
 intro n;induction n with
 |zero=>intro s h;obtain rfl:s=[]:=List.length_eq_zero_iff.1 (by omega);rfl
 |succ n ih=>
  intro s h;by_cases hm:q∈s
  ·obtain⟨w,r,rfl,hw⟩:=List.eq_append_cons_of_mem hm;have hc:(w++q::r).count q=r.count q+1:=by rw[List.count_append,QX hw];simp
   have hi:Lib.index (w++q::r) [q]=w.length:=by rw[Lib.index_one];exact indexByte_hit hw
   have h1:¬((w.length:Int)==-1)=true:=λe=>by have:=beq_iff_eq.1 e;omega
   rw[hc,Lib.splitK,hi,if_neg h1,Go.Vd.split_word hw,Qd];have e1:(w++q::r).take (w.length+0)=w:=by simp
   have e2:(w++q::r).drop (w.length+[q].length)=r:=by
    rw[show w.length+[q].length=(w++[q]).length by simp,show w++q::r=(w++[q])++r by simp,List.drop_left]
   rw[e1,e2,ih r (by simp at h;omega)]
  ·rw[QX hm,Go.Vd.split_one hm];rfl
set_option maxHeartbeats 1000000 in
def split_space(q:UInt8)(L:Lays.n146 P ρ)(hi9:(P.info? (ρ.t 9)).map (λi=>(i.zero,i.size,i.bytes))=some (some (.string ByteArray.empty),1,16))(s:ByteArray)(w:World)(hs:s.size<4294967281):
  Calls P (ρ.f 146) #[.string s,.string ⟨#[q]⟩] w λe w'=>
   e= .returned (.slice (some ⟨w.heap.size,0,none⟩) (Lib.countB s ⟨#[q]⟩+1) (Lib.countB s ⟨#[q]⟩+1))∧w'=w.alloc (.cells ((Lib.splitB ⟨#[q]⟩ 0 (Lib.countB s ⟨#[q]⟩) s).map Value.string).toArray (ρ.t 9)):=by
 have h1:1<=(⟨#[q]⟩:ByteArray).size:=Qs 1;have hle:=Lib.countB_le ⟨#[q]⟩ h1 s.size s (Qs _);have hlen:=Lib.splitB_all ⟨#[q]⟩ h1 0 _ s rfl;have c:=Any.strings_genSplit_core {L with} hi9 s ⟨#[q]⟩ 0 (-1) (Lib.countB s ⟨#[q]⟩+1) w hs h1 (Qq _)
  (λx cc _=>(Any.strings_Index_one {L with} x q _).mono λe w' ⟨he,hw⟩=>⟨by rw[he,←Lib.index_one],hw⟩)
  ((Any.strings_Count_one {L with} s q w).mono λe w' ⟨he,hw⟩=>⟨by rw[he];show _=Ending.returned (Value.int .i64 ((Lib.count s.data.toList [q]:Nat):Int));rw[Lib.count_one];rfl,hw⟩)
  (by decide) (by decide) (by rw[if_pos (by decide)];omega)
 rw[Nat.add_sub_cancel,hlen]at c;have e2:Lib.cellsOf (Lib.splitB ⟨#[q]⟩ 0 (Lib.countB s ⟨#[q]⟩) s) (Lib.countB s ⟨#[q]⟩+1)=((Lib.splitB ⟨#[q]⟩ 0 (Lib.countB s ⟨#[q]⟩) s).map Value.string).toArray:=by rw[←hlen];exact Lib.cellsOf_full _
 rw[e2]at c;have t3:=L.t3;have t9:=L.t9;have t31:=L.t31;have a3:=L.a3;have a9:=L.a9;have a31:=L.a31;have z3:=L.z3;have v3:=L.v3;have z9:=L.z9;have v9:=L.v9;have z31:=L.z31;have v31:=L.v31;have e221:∀args w,(callFunc (ρ.f 221) args).run P w= .ok (.enter (ρ.f 221) args) w:=enters_of L.f221 (by kernel_rfl) rfl
 go_enter L.f146,Body.n146_ntmps ρ
 go_wp2_with (go_at_fn (ρ.f 221);refine c.mono ?_;rintro e w' ⟨rfl,hw⟩;rw[hw])
 go_ret
 exact⟨rfl,rfl⟩
end Go.Proofs
namespace Go.Vd
open Go.RowKit Go.Proofs
def De:List D->Option D
 |[.str s,.str [q]]=>if s.length<=1000000 then some (.slice false [] ((splitC q s).map .str))else none
 |_=>none
def splitB_len{q:UInt8}:∀s:Bs,(splitC q s).length<=s.length+1
 |[]=>by simp[splitC]
 |c::r=>by
  have ih:=splitB_len (q:=q) r;unfold splitC;split
  ·simp;omega
  ·split
   ·rename_i h t e;rw[e]at ih;simp at ih ⊢;omega
   ·simp
def split_ok {P:Program} {ρ:Go.Shelf.Ren} (L:Go.Proofs.Lays.n146 P ρ) (hi9:(P.info? (ρ.t 9)).map (fun i=>(i.zero,i.size,i.bytes))=some (some (.string ByteArray.empty),1,16)) (ent:∃fn,P.funcs[ρ.f 146]?=some fn∧fn.body.isSome=true∧(fn.name== "runtime.NumGoroutine")=false):(Ac De).ok P (ρ.f 146):=by
 refine⟨ent,λds m m' fr _=>rfl,?_⟩;intro B w0 w m g fr ds vs r u hi hfresh hl hrep hex;simp only[Ac]at hex;split at hex
 ·rw[Qf]at hex;obtain⟨r',hr,hex⟩:=hex;simp only[Qj]at hex;obtain⟨rfl,rfl⟩:=hex
  match ds,vs,hl with
  |[d,d1],[v,v1],_=>
   have h0:=hrep 0 d v rfl rfl;have h1:=hrep 1 d1 v1 rfl rfl;have hd:∃s,d= .str s:=by
    cases d<;>first|exact⟨_,rfl⟩|(exfalso;simp[De,D.un]at hr;done)
   obtain⟨s,rfl⟩:=hd;have hd1:∃q,d1= .str [q]:=by
    cases d1 with
    |str z=>
     simp only[QM,List.map_nil,D.un,De]at hr;split at hr
     ·rename_i q heq;simp at heq;exact⟨q,by rw[heq.2]⟩
     ·cases hr
    |_=>exfalso;simp[De,D.un]at hr
   obtain⟨q,rfl⟩:=hd1;simp only[QM,List.map_nil,D.un,De]at hr;split at hr
   ·rename_i hc;simp only[Qb]at hr;subst hr;rw[h0.str_inv,h1.str_inv];have hcnt:Lib.countB ⟨s.toArray⟩ ⟨#[q]⟩=s.count q:=by
     show Lib.count s [q]=_;exact Lib.count_one q s
    have hpc:(Lib.splitB ⟨#[q]⟩ 0 (s.count q) ⟨s.toArray⟩).map (·.data.toList)=splitC q s:=by
     rw[Lib.splitB_data];exact Go.Proofs.splitK_eq q s.length s (Qs _)
    have hlen:(splitC q s).length=s.count q+1:=by
     rw[←hpc,Qg,←hcnt];exact Lib.splitB_all ⟨#[q]⟩ (Qs 1) 0 _ _ rfl
    refine(Go.Proofs.split_space q L hi9 ⟨s.toArray⟩ w (by show s.length<_;omega)).mono ?_;rintro ev w' ⟨rfl,rfl⟩;have hb:Below w.heap.size w (w.alloc (.cells ((Lib.splitB ⟨#[q]⟩ 0 (Lib.countB ⟨s.toArray⟩ ⟨#[q]⟩) ⟨s.toArray⟩).map Value.string).toArray (ρ.t 9))):=(Below.refl _ _).alloc (Qs _) _;refine⟨_,g.over w _,rfl,hi.over hb,Ext.over hi.gz hb,rep_own (e:=ρ.t 9) (n:=s.count q+1) hi hb (strs_all _) (by rw[Qg,hlen]) ?_ (by simp),λi hf _=>hf⟩;have hl2:=splitB_len (q:=q) s;have hmap:((splitC q s).map D.str).map (λd=>Value.string ⟨(strOf d).toArray⟩)=(Lib.splitB ⟨#[q]⟩ 0 (s.count q) ⟨s.toArray⟩).map Value.string:=by
     rw[←hpc,QI,QI];refine QC λx _=>?_
     rfl
    rw[hmap,hcnt];have hll:((Lib.splitB ⟨#[q]⟩ 0 (s.count q) ⟨s.toArray⟩).map Value.string).length=s.count q+1:=by
     rw[←hlen,←hpc];simp
    refine⟨by rw[hll];omega,.inr ⟨w.heap.size,s.count q+1,_,rfl,Qs _,heap_alloc_new w _,Qs _,?_,?_,?_⟩⟩
    ·rw[hlen]at hl2;have:maxLen=9223372036854775807:=rfl;omega
    ·rw[List.size_toArray,hll];omega
    ·rw[QS (by rw[hll];omega)]
   ·cases hr
  |[],_,_=>simp[De]at hr
  |[_],_,_=>simp[De]at hr
  |_::_::_::_,_,_=>simp[De]at hr
 ·cases hex
end Go.Vd
namespace Go.Vd
open Go.RowKit Go.Proofs
def F312:List D->Option D
 |[.str s]=>if s.length<=1000000 then some (.slice false [] ((splitC 47 s).map .str))else none
 |_=>none
def take_snoc{l:Bs}{a k:Nat}(ha:a<=k)(hk:k<l.length):(l.drop a).take (k+1-a)=(l.drop a).take (k-a)++[l[k]]:=by
 rw[show k+1-a=(k-a)+1 by omega,QH,List.getElem?_drop,show a+(k-a)=k by omega,Qe hk];rfl
def drop_split{l:Bs}{a k:Nat}(ha:a<=k)(hk:k<l.length):l.drop a=(l.drop a).take (k-a)++l[k]::l.drop (k+1):=by
 have h:=Zb (k-a) (l.drop a);rw[List.drop_drop,show a+(k-a)=k by omega,QK hk]at h;exact h.symm
set_option maxHeartbeats 2000000 in
def loop312{S:Summs}{l:Bs}{Q:Ex->St->Prop}(hb:l.length<=1000000)
  (hexit:∀st t,st.s 3= .slice false t ((splitC 47 l).map .str)->Q (.exit 0) st):
  ∀(n k a:Nat)(t:Id)(pre:List Bs) st g,n=l.length-k->k<=l.length->a<=k->pre.length<=k->splitC 47 l=pre++splitC 47 (l.drop a)->(47:UInt8)∉(l.drop a).take (k-a)->st.s 5= .int .i64 (k:Int)->st.s 4= .int .i64 (a:Int)->st.s 0= .str l->st.s 3= .slice pre.isEmpty t (pre.map .str)->Gw st.m st.c 9 pre.isEmpty t->
   A4 S [] dc312l0 Q st g:=by
 intro n;induction n with
 |zero=>
  intro k a t pre st g hn hk ha hp hu hw h7 h6 h0 h5 hg;refine Ae dc312l0.eq_1 ?_;obtain rfl:k=l.length:=by omega
  have c1:((l.length:Int)<=(l.length:Int))=True:=eq_true (by omega);have c2:((0:Int)<=(l.length:Int))=True:=eq_true (by omega);have c3:((a:Int)<=(l.length:Int))=True:=eq_true (by omega);have c4:((0:Int)<=(a:Int))=True:=eq_true (by omega);have c5:IntKind.i64.wrap ((l.length:Int)+1)=(l.length:Int)+1:=IntWalk.i64_in _ ⟨by omega,by omega⟩;have c6:(((l.length:Int)+1)<=(l.length:Int))=False:=eq_false (by omega);have hnil:pre.isEmpty=true->pre.map D.str=[]:=λh=>by rw[List.isEmpty_iff]at h;rw[h];rfl
  simp only[↓go1,gB2,simprocAttr,gB3,Qd,h7,h6,h0,h5,c1,c2,c3,c4,and_false,and_self];refine Ao.intro ⟨by simp only[Qg];omega,rfl,(hg.put (by omega)).toGrow⟩ ?_;rw[BH hnil];simp only[↓go1,gB2,simprocAttr,h7,c5];refine Ae dc312l0.eq_1 ?_;simp only[↓go1,gB2,simprocAttr,h7,h0,c6];refine hexit _ [st.c+4+10+6] ?_;simp only[↓go1,reduceIte,Qn];have e:(l.drop a).take (l.length-a)=l.drop a:=QS (by simp);rw[e]at hw;rw[hu,split_one hw,e,List.map_append];rfl
 |succ n ih=>
  intro k a t pre st g hn hk ha hp hu hw h7 h6 h0 h5 hg;refine Ae dc312l0.eq_1 ?_;have hkl:k<l.length:=by omega
  have c1:((k:Int)<=(l.length:Int))=True:=eq_true (by omega);have c1':((k:Int)=(l.length:Int))=False:=eq_false (by omega);have c2:((0:Int)<=(k:Int))=True:=eq_true (by omega);have c3:((a:Int)<=(k:Int))=True:=eq_true (by omega);have c4:((0:Int)<=(a:Int))=True:=eq_true (by omega);have c5:IntKind.i64.wrap ((k:Int)+1)=((k+1:Nat):Int):=by rw[IntWalk.i64_in _ ⟨by omega,by omega⟩];omega
  have hx:l[k]?=some l[k]:=Qe hkl;have hnil:pre.isEmpty=true->pre.map D.str=[]:=λh=>by rw[List.isEmpty_iff]at h;rw[h];rfl
  by_cases hc:l[k]=47
  ·have hc':((l[k].toNat:Int)=47)=True:=eq_true (by rw[hc];rfl);simp only[↓go1,gB2,simprocAttr,gB3,Qd,h7,h6,h0,h5,c1,c2,c3,c4,c1',hx,hc',and_false,and_self];refine Ao.intro ⟨by simp only[Qg];omega,rfl,(hg.put (by omega)).toGrow⟩ ?_;rw[BH hnil];simp only[↓go1,gB2,simprocAttr,h7,c5];have hne:(pre++[(l.drop a).take (k-a)]).isEmpty=false:=by cases pre<;>rfl
   refine ih (k+1) (k+1) [st.c+4+10+6] (pre++[(l.drop a).take (k-a)]) _ _ (by omega) (by omega) (by omega) (by simp;omega) ?_ (by simp) rfl rfl h0 ?_ ?_
   ·have hds:=drop_split ha hkl;rw[hc]at hds;rw[hu,List.append_assoc];congr 1
    conv=>lhs;rw[hds]
    rw[split_word hw];rfl
   ·rw[hne,List.map_append];rfl
   ·rw[hne];exact Gw.new (by simp only;omega)
  ·have hc':((l[k].toNat:Int)=47)=False:=eq_false (λe=>hc (by rw[←UInt8.toNat_inj];have:((47:UInt8).toNat:Int)=47:=rfl;omega));simp only[↓go1,go2,go4,simprocAttr,Qd,h7,h0,c1,c2,c5,c1',hx,hc'];refine ih (k+1) a t pre _ _ (by omega) (by omega) (by omega) (by omega) hu ?_ rfl h6 h0 h5 (hg.more (by simp only;omega));rw[take_snoc ha hkl];simp only[List.mem_append,List.mem_singleton,not_or];exact⟨hw,λe=>hc e.symm⟩
def ok312:(Ac F312).ok Qc 312:=by
 refine Az (S:=λ_=>none) AK fn312 (λds r h=>?_) (λds r h=>?_)
 ·unfold F312 at h;split at h
  ·simp
  ·cases h
 ·unfold F312 at h;split at h
  ·rename_i s;split at h
   ·rename_i hb;simp only[Qb]at h;subst h;unfold dc312;simp only[↓go1,go2,Qk];refine loop312 (l:=s) hb (λst t h5=>?_) s.length 0 0 [] [] _ _ rfl (by omega) (by omega) (by simp) (by simp) (by simp) rfl rfl rfl rfl (.inl rfl);simp only[↓go1,gB2,simprocAttr,h5]
   ·cases h
  ·cases h
end Go.Vd
namespace Go.Vd
open Go.Proofs Go.RowKit
def DV:Bool->List Bs->Option Bool
 |w,[]=>some w
 |w,p::r=>if Et p=4 then none else DV (w||decide (Et p=5)) r
def wI(w:Bool):Int:=if w=true then 5 else 0
def Gu(l:List Bs):Int:=match DV false l with
 |none=>4
 |some w=>if w=true then 5 else if 6<l.length then 24 else 0
def okL(l:List Bs):Prop:=l.length<=1000001∧∀p∈l,p.length<=1000000
def partE_cases(s:Bs):Et s=4∨Et s=5∨Et s=0:=by
 have:∀f p n,C9 s f p n=4∨C9 s f p n=5∨C9 s f p n=0:=by
  intro f;induction f with
  |zero=>intro p n;unfold C9;split<;>simp
  |succ f ih=>
   intro p n;unfold C9;split
   ·split
    ·exact ih _ _
    ·simp
   ·split<;>simp
 unfold Et;split
 ·simp
 ·exact this _ _ _
open Classical in
def F360:List D->Option D
 |[.slice _ _ xs]=>match Gj xs with
  |some l=>if okL l then some (.int .i64 (Gu l))else none
  |none=>none
 |_=>none
def loop360{S:Summs}{ns:Id}{l:List Bs}{nl:Bool}{t:Id}{e:Option Bool}{Q:Ex->St->Prop}(hb:okL l)(s395:S 395=some (Ac F395))
  (hret:∀st,e=none->st.s 2= .int .i64 4->Q .ret st) (hexit:∀st w,e=some w->st.s 3= .int .i64 (wI w)->st.s 0= .slice nl t (l.map .str)->Q (.exit 0) st):
  ∀(n k:Nat)(w:Bool) st g,n=l.length-k->k<=l.length->DV w (l.drop k)=e->st.s 8= .int .i64 (k:Int)->st.s 7= .int .i64 (l.length:Int)->st.s 6= .slice nl t (l.map .str)->st.s 0= .slice nl t (l.map .str)->st.s 3= .int .i64 (wI w)->A4 S ns dc360l0 Q st g:=by
 intro n;induction n with
 |zero=>
  intro k w st g hn hk he h8 h7 h6 h0 h3;refine Ae dc360l0.eq_1 ?_;have:¬((k:Int)<l.length):=by omega
  simp only[↓go1,go2,go4,reduceIte,Qk,h8,h7,this];rw[Q8 (by omega)]at he;exact hexit _ w he.symm (by simp only[↓go1,reduceIte,Qn,h3]) (by simp only[↓go1,reduceIte,Qn,h0])
 |succ n ih=>
  intro k w st g hn hk he h8 h7 h6 h0 h3;refine Ae dc360l0.eq_1 ?_;have hkl:k<l.length:=by omega
  have hlt:((k:Int)<l.length):=by omega
  have hk0:(0:Int)<=(k:Int):=by omega
  have hx:(l.map D.str)[(k:Int).toNat]?=some (.str (l[k])):=by simp[hkl]
  have hb1:=hb.1;have hw:IntKind.i64.wrap ((k:Int)+1)=((k+1:Nat):Int):=w64 (by omega) (by omega);have hF:F395 [.str l[k]]=some (.int .i64 (Et l[k])):=if_pos (hb.2 _ (QD hkl));rw[QK hkl]at he;simp only[DV]at he;rcases partE_cases l[k]with h|h|h
  ·rw[if_pos h]at he;rw[h]at hF;simp only[↓go1,gB2,simprocAttr,h8,h7,h6,hlt,hk0,hx,Aa s395,hF];exact hret _ he.symm rfl
  ·rw[if_neg (by omega),h]at he;rw[h]at hF;have c1:((5:Int)=4)=False:=by simp
   simp only[↓go1,gB2,simprocAttr,h8,h7,h6,hlt,hk0,hx,Aa s395,hF,c1,hw];exact ih (k+1) true _ _ (by omega) (by omega) (by simpa using he) rfl h7 h6 h0 rfl
  ·rw[if_neg (by omega),h]at he;rw[h]at hF;have c1:((0:Int)=4)=False:=by simp
   have c2:((0:Int)=5)=False:=by simp
   simp only[↓go1,gB2,simprocAttr,h8,h7,h6,hlt,hk0,hx,Aa s395,hF,c1,c2,hw];exact ih (k+1) w _ _ (by omega) (by omega) (by simpa using he) rfl h7 h6 h0 h3
def ok360:(Ac F360).ok Qc 360:=by
 obtain⟨S,hS,hl⟩:=A6 (Ab ok395 Ad);have s395:=hl 395 _ rfl;clear hl;refine Az (S:=S) hS fn360 (λds r h=>?_) (λds r h=>?_)
 ·unfold F360 at h;split at h
  ·simp
  ·cases h
 ·unfold F360 at h;split at h
  ·rename_i nl t xs;split at h
   ·rename_i l hl;obtain rfl:=Fd hl;split at h
    ·rename_i hb;simp only[Qb]at h;subst h;unfold dc360 Gu;simp only[↓go1,go2,simprocAttr,Qg];have hb1:=hb.1;refine loop360 (nl:=nl) (t:=t) (e:=DV false l) hb s395 (λst h1 h2=>?_) (λst w h1 h2 h3=>?_) l.length 0 false _ _ (by omega) (by omega) rfl rfl rfl rfl rfl rfl
     ·simp only[↓go1,gB2,h2,h1]
     ·have c1:((6:Int)<(l.length:Int))=(6<l.length):=by simp only[eq_iff_iff];omega
      have c2:((5:Int)=0)=False:=by simp
      have c3:((0:Int)=0)=True:=by simp
      cases w<;>simp only[wI,reduceIte,QF]at h2<;>simp only[↓go1,gB2,simprocAttr,h1,h2,h3,Qg,c1,c2];refine ifQ.intro (λh=>?_) (λh=>?_)<;>simp only[↓go1,gB2,simprocAttr,h,h2,h1]
    ·cases h
   ·cases h
  ·cases h
def AP(s:Bs):Int:=if 64<s.length then 5 else Gu (splitC 47 s)
def F211:List D->Option D
 |[.str s]=>if s.length<=1000000 then some (.int .i64 (AP s))else none
 |_=>none
def splitB_okL{s:Bs}(h:s.length<=1000000):okL (splitC 47 s):=by
 have:∀(s:Bs) w,w∈splitC 47 s->w.length<=s.length:=by
  intro s;induction s with
  |nil=>intro w hw;simp[splitC]at hw;simp[hw]
  |cons c r ih=>
   intro w hw;unfold splitC at hw;split at hw
   ·simp only[QN]at hw;rcases hw with rfl|hw
    ·simp
    ·have:=ih w hw;simp;omega
   ·split at hw
    ·rename_i h t e;simp only[QN]at hw;rcases hw with rfl|hw
     ·have:=ih h (by rw[e];simp);simp;omega
     ·have:=ih w (by rw[e];simp[hw]);simp;omega
    ·simp at hw;simp[hw]
 have h2:=splitB_len (q:=47) s;exact⟨by omega,λp hp=>by have:=this s p hp;omega⟩
def loop211{S:Summs}{ns:Id}{l:List Bs}{nl:Bool}{t:Id}{e:Option Bool}{Q:Ex->St->Prop}(hb:okL l)(s313:S 313=some (Ac F313))
  (hret:∀st,e=none->st.s 2= .int .i64 4->Q .ret st) (hexit:∀st w,e=some w->st.s 4= .bool w->st.s 3= .slice nl t (l.map .str)->Q (.exit 0) st):
  ∀(n k:Nat)(w:Bool) st g,n=l.length-k->k<=l.length->DV w (l.drop k)=e->st.s 5= .int .i64 (k:Int)->st.s 3= .slice nl t (l.map .str)->st.s 4= .bool w->A4 S ns dc211l0 Q st g:=by
 intro n;induction n with
 |zero=>
  intro k w st g hn hk he h5 h3 h4;refine Ae dc211l0.eq_1 ?_;have:¬((k:Int)<l.length):=by omega
  simp only[↓go1,go2,go4,simprocAttr,h5,h3,Qg,this];rw[Q8 (by omega)]at he;exact hexit _ w he.symm (by simp only[↓go1,reduceIte,Qn,h4]) (by simp only[↓go1,reduceIte,Qn,h3])
 |succ n ih=>
  intro k w st g hn hk he h5 h3 h4;refine Ae dc211l0.eq_1 ?_;have hkl:k<l.length:=by omega
  have hlt:((k:Int)<l.length):=by omega
  have hk0:(0:Int)<=(k:Int):=by omega
  have hx:(l.map D.str)[(k:Int).toNat]?=some (.str (l[k])):=by simp[hkl]
  have hb1:=hb.1;have hw:IntKind.i64.wrap ((k:Int)+1)=((k+1:Nat):Int):=w64 (by omega) (by omega);have hF:F313 [.str l[k]]=some (.int .i64 (Et l[k])):=if_pos (hb.2 _ (QD hkl));rw[QK hkl]at he;simp only[DV]at he;rcases partE_cases l[k]with h|h|h
  ·rw[if_pos h]at he;rw[h]at hF;simp only[↓go1,gB2,simprocAttr,h5,h3,Qg,hlt,hk0,hx,Aa s313,hF];exact hret _ he.symm rfl
  ·rw[if_neg (by omega),h]at he;rw[h]at hF;have c1:((5:Int)=4)=False:=by simp
   cases w<;>simp only[↓go1,gB2,simprocAttr,h5,h3,h4,Qg,hlt,hk0,hx,Aa s313,hF,c1,hw]
   all_goals exact ih (k+1) true _ _ (by omega) (by omega) (by simpa using he) rfl h3 rfl
  ·rw[if_neg (by omega),h]at he;rw[h]at hF;have c1:((0:Int)=4)=False:=by simp
   have c2:((0:Int)=5)=False:=by simp
   cases w<;>simp only[↓go1,gB2,simprocAttr,h5,h3,h4,Qg,hlt,hk0,hx,Aa s313,hF,c1,c2,hw]
   ·exact ih (k+1) false _ _ (by omega) (by omega) (by simpa using he) rfl h3 rfl
   ·exact ih (k+1) true _ _ (by omega) (by omega) (by simpa using he) rfl h3 rfl
def ok211:(Ac F211).ok Qc 211:=by
 obtain⟨S,hS,hl⟩:=A6 (Ab ok312 (Ab ok313 Ad));have s312:=hl 312 _ rfl;have s313:=hl 313 _ rfl;clear hl;refine Az (S:=S) hS fn211 (λds r h=>?_) (λds r h=>?_)
 ·unfold F211 at h;split at h
  ·simp
  ·cases h
 ·unfold F211 at h;split at h
  ·rename_i s;split at h
   ·rename_i hs;simp only[Qb]at h;subst h;unfold dc211 AP;have c0:((64:Int)<(s.length:Int))=(64<s.length):=by simp only[eq_iff_iff];omega
    have hF:F312 [.str s]=some (.slice false [] ((splitC 47 s).map .str)):=if_pos hs;have hb:=splitB_okL hs;by_cases h64:64<s.length
    ·simp only[↓go1,gB2,simprocAttr,c0,h64]
    ·simp only[↓go1,gB2,simprocAttr,c0,h64,Aa s312,hF];unfold Gu;generalize splitC 47 s=l at hb hF ⊢;have hb1:=hb.1;refine loop211 (nl:=false) (t:=[]) (e:=DV false l) hb s313 (λst h1 h2=>?_) (λst w h1 h2 h3=>?_) l.length 0 false _ _ (by omega) (by omega) rfl rfl rfl rfl
     ·simp only[↓go1,gB2,reduceIte,h2,h1,h64]
     ·have c1:((6:Int)<(l.length:Int))=(6<l.length):=by simp only[eq_iff_iff];omega
      cases w<;>simp only[↓go1,gB2,simprocAttr,h1,h2,h3,h64,Qg,c1];refine ifQ.intro (λh=>?_) (λh=>?_)<;>simp only[↓go1,gB2,simprocAttr,h,h1,h64]
   ·cases h
  ·cases h
end Go.Vd
namespace Go.Proofs
open Go.Shelf
def lays146_ren:Go.Shelf.Ren:=⟨λ|146=>88|221=>186|268=>286|138=>287|143=>288|195=>353|197=>354|218=>355|219=>356|260=>389|217=>390|225=>391|224=>392|267=>393|266=>406|314=>407|n=>n,λ|9=>9|31=>28|3=>3|4=>4|0=>0|105=>423|21=>21|5=>5|46=>137|119=>462|139=>465|138=>464|146=>398|51=>392|n=>n,λ|1=>0|3=>1|4=>2|n=>n⟩
def lays146:Go.Proofs.Lays.n146 Qc lays146_ren:={
 mixed:=by kernel_rfl
 f138:=func287.trans (congrArg some (by kernel_rfl))
 f143:=func288.trans (congrArg some (by kernel_rfl))
 f146:=func88.trans (congrArg some (by kernel_rfl))
 f195:=func353.trans (congrArg some (by kernel_rfl))
 f197:=func354.trans (congrArg some (by kernel_rfl))
 f217:=func390.trans (congrArg some (by kernel_rfl))
 f218:=func355.trans (congrArg some (by kernel_rfl))
 f219:=func356.trans (congrArg some (by kernel_rfl))
 f221:=func186.trans (congrArg some (by kernel_rfl))
 f224:=func392.trans (congrArg some (by kernel_rfl))
 f225:=func391.trans (congrArg some (by kernel_rfl))
 f260:=func389.trans (congrArg some (by kernel_rfl))
 f266:=func406.trans (congrArg some (by kernel_rfl))
 f267:=func393.trans (congrArg some (by kernel_rfl))
 f268:=func286.trans (congrArg some (by kernel_rfl))
 f314:=func407.trans (congrArg some (by kernel_rfl))
 t0:=underlying0
 a0:=isAgg0
 z0:=sizeOf0
 v0:=zeroValue0
 t3:=underlying3
 a3:=isAgg3
 z3:=sizeOf3
 v3:=zeroValue3
 t4:=underlying4
 a4:=isAgg4
 z4:=sizeOf4
 v4:=zeroValue4
 t5:=underlying5
 a5:=isAgg5
 z5:=sizeOf5
 v5:=zeroValue5
 t9:=underlying9
 a9:=isAgg9
 z9:=sizeOf9
 v9:=zeroValue9
 t21:=underlying21
 a21:=isAgg21
 z21:=sizeOf21
 v21:=zeroValue21
 t31:=underlying28
 a31:=isAgg28
 z31:=sizeOf28
 v31:=zeroValue28
 t46:=underlying137
 a46:=isAgg137
 z46:=sizeOf137
 v46:=zeroValue137
 t51:=underlying392
 a51:=isAgg392
 z51:=sizeOf392
 v51:=zeroValue392
 t105:=underlying423
 a105:=isAgg423
 z105:=sizeOf423
 v105:=zeroValue423
 t119:=underlying462
 a119:=isAgg462
 z119:=sizeOf462
 t138:=underlying464
 a138:=isAgg464
 z138:=sizeOf464
 v138:=zeroValue464
 t139:=underlying465
 a139:=isAgg465
 z139:=sizeOf465
 v139:=zeroValue465
 t146:=underlying398
 a146:=isAgg398
 z146:=sizeOf398
 v146:=zeroValue398
 g1:=by kernel_rfl
 g3:=by kernel_rfl
 g4:=by kernel_rfl}
end Go.Proofs
namespace Go.Vd
open Go.Proofs Go.RowKit
def ok88:(Ac De).ok Qc 88:=split_ok lays146 (by kernel_rfl) ⟨_,func88,by kernel_rfl,by kernel_rfl⟩
open Classical in
def F300:List D->Option D
 |[.str s]=>if s.length<=1000000 then some (.tup [if AP s=0 then .slice false [] ((splitC 47 s).map .str)else .slice true [] [],.int .i64 (AP s)])else none
 |_=>none
def F360_of{l:List Bs}{nl:Bool}{t:Id}(h:okL l):F360 [.slice nl t (l.map .str)]=some (.int .i64 (Gu l)):=by
 simp only[F360,Gi];exact if_pos h
def ok300:(Ac F300).ok Qc 300:=by
 obtain⟨S,hS,hl⟩:=A6 (Ab ok88 (Ab ok360 Ad));have s88:=hl 88 _ rfl;have s360:=hl 360 _ rfl;clear hl;refine Az (S:=S) hS fn300 (λds r h=>?_) (λds r h=>?_)
 ·unfold F300 at h;split at h
  ·simp
  ·cases h
 ·unfold F300 at h;split at h
  ·rename_i s;split at h
   ·rename_i hs;simp only[Qb]at h;subst h;unfold dc300 AP;have c0:((64:Int)<(s.length:Int))=(64<s.length):=by simp only[eq_iff_iff];omega
    have c5:((5:Int)=0)=False:=by simp
    have hF:De [.str s,.str [47]]=some (.slice false [] ((splitC 47 s).map .str)):=if_pos hs;have hG:=F360_of (nl:=false) (t:=[]) (splitB_okL hs);have hc:((splitC 47 s).map D.str).all D.calm=true:=by simp[Qt];intros;rfl
    by_cases h64:64<s.length
    ·simp only[↓go1,gB2,simprocAttr,c0,h64,c5]
    ·simp only[↓go1,gB2,simprocAttr,c0,h64,Aa s88,Aa s360,hF,hG];refine ifQ.intro (λh=>?_) (λh=>?_)<;>simp only[↓go1,gB2,simprocAttr,h,h64]
   ·cases h
  ·cases h
def F201:List D->Option D
 |[.str s]=>if s.length<=1000000 then some (.int .i64 (AP s))else none
 |_=>none
def ok201:(Ac F201).ok Qc 201:=by
 obtain⟨S,hS,hl⟩:=A6 (Ab ok300 Ad);have s300:=hl 300 _ rfl;clear hl;refine Az (S:=S) hS fn201 (λds r h=>?_) (λds r h=>?_)
 ·unfold F201 at h;split at h
  ·simp
  ·cases h
 ·unfold F201 at h;split at h
  ·rename_i s;split at h
   ·rename_i hs;simp only[Qb]at h;subst h;have hF:F300 [.str s]=some (.tup [if AP s=0 then .slice false [] ((splitC 47 s).map .str)else .slice true [] [],.int .i64 (AP s)]):=by
     simp only[F300,if_pos hs]
    unfold dc201;simp only[↓go1,gB2,simprocAttr,Aa s300,hF]
   ·cases h
  ·cases h
end Go.Vd
namespace Go.Vd
open Go.Proofs
def dc206:=y0 f206 [] []
def fn206:Fn Qc 206 13 dc206 [.t 4]:=Am func206
def dc301:=y0 f301 [] []
def fn301:Fn Qc 301 14 dc301 [.t 4]:=Am func301
def dc331:=y0 f331 [] []
def fn331:Fn Qc 331 25 dc331 [.t 4,.t 5]:=Am func331
def dc200:=y0 f200 [] []
def fn200:Fn Qc 200 11 dc200 [.t 4,.t 5]:=Am func200
def dc299:=y0 f299 [] []
def fn299:Fn Qc 299 15 dc299 [.t 4,.t 5]:=Am func299
def dc323:=y0 f323 [] []
def fn323:Fn Qc 323 18 dc323 [.t 4]:=Am func323
def dc111:=y0 f111 [] []
def fn111:Fn Qc 111 18 dc111 [.t 4]:=Am func111
def dc212l0:=y1 f212 4 [] []
def dc212:=y0 f212 [] [(4,dc212l0)]
def fn212:Fn Qc 212 24 dc212 [.t 4]:=Am func212
end Go.Vd
namespace Go.Vd
open Go.Proofs Go.RowKit
def BN(s t:Bs):Bool:=decide (s.take t.length=t)
def hasP_len{s t:Bs}(h:BN s t=true):t.length<=s.length:=by
 have h1:s.take t.length=t:=by simpa[BN]using h
 have h2:min t.length s.length=t.length:=by simpa using congrArg Zh h1
 omega
def Co(s top:Bs):Bool:=if top=[]then decide (s≠[])else BN s top&&BN (s.drop top.length) [47]
def A7(s top:Bs):Bool:=decide (s=top)||Co s top
def C_(s top:Bs):Bs:=if top=[]then s else if BN s top=true then(if BN (s.drop top.length) [47]=true then(s.drop top.length).drop 1 else s.drop top.length)else []
def F323:List D->Option D
 |[.str s,.str t]=>some (.bool (BN s t))
 |_=>none
def ok323:(Ac F323).ok Qc 323:=by
 refine Az (S:=λ_=>none) AK fn323 (λds r h=>?_) (λds r h=>?_)
 ·unfold F323 at h;split at h
  ·simp
  ·cases h
 ·unfold F323 at h;split at h
  ·rename_i s t;simp only[Qb]at h;subst h;unfold dc323;have c1:((t.length:Int)<=(s.length:Int))=(t.length<=s.length):=by simp only[eq_iff_iff];omega
   have c2:((0:Int)<=(t.length:Int))=True:=eq_true (by omega);by_cases hl:t.length<=s.length
   ·simp only[↓go1,gB2,simprocAttr,c1,c2,hl,Qd,Q2,Qo,and_self];simp[BN]
   ·simp only[↓go1,gB2,simprocAttr,c1,hl];have:BN s t=false:=by rw[QT];intro h;exact hl (hasP_len h)
    simp[this]
  ·cases h
def F299:List D->Option D
 |[.str s,.str t]=>some (.tup [.str (if BN s t=true then s.drop t.length else s),.bool (BN s t)])
 |_=>none
def ok299:(Ac F299).ok Qc 299:=by
 obtain⟨S,hS,hl⟩:=A6 (Ab ok323 Ad);have s323:=hl 323 _ rfl;clear hl;refine Az (S:=S) hS fn299 (λds r h=>?_) (λds r h=>?_)
 ·unfold F299 at h;split at h
  ·simp
  ·cases h
 ·unfold F299 at h;split at h
  ·rename_i s t;simp only[Qb]at h;subst h;unfold dc299;have c1:((t.length:Int)<=(s.length:Int))=(t.length<=s.length):=by simp only[eq_iff_iff];omega
   have c2:((0:Int)<=(t.length:Int))=True:=eq_true (by omega);have hF:F323 [.str s,.str t]=some (.bool (BN s t)):=rfl;cases hp:BN s t with
   |false=>simp only[↓go1,gB2,simprocAttr,Aa s323,hF,hp]
   |true=>
    have hl:=hasP_len hp;have e:(s.drop t.length).take (s.length-t.length)=s.drop t.length:=QS (by simp);simp only[↓go1,gB2,simprocAttr,Aa s323,hF,hp,c1,c2,hl,Qd,and_self,e]
  ·cases h
def F200:List D->Option D
 |[.str s,.str t]=>some (.tup [.str (if BN s t=true then s.drop t.length else s),.bool (BN s t)])
 |_=>none
def ok200:(Ac F200).ok Qc 200:=by
 obtain⟨S,hS,hl⟩:=A6 (Ab ok299 Ad);have s299:=hl 299 _ rfl;clear hl;refine Az (S:=S) hS fn200 (λds r h=>?_) (λds r h=>?_)
 ·unfold F200 at h;split at h
  ·simp
  ·cases h
 ·unfold F200 at h;split at h
  ·rename_i s t;simp only[Qb]at h;subst h;unfold dc200;have hF:F299 [.str s,.str t]=some (.tup [.str (if BN s t=true then s.drop t.length else s),.bool (BN s t)]):=rfl;simp only[↓go1,gB2,simprocAttr,Aa s299,hF]
  ·cases h
def F331:List D->Option D
 |[.str s,.str t]=>some (.tup [.str (C_ s t),.bool (Co s t)])
 |_=>none
def ok331:(Ac F331).ok Qc 331:=by
 obtain⟨S,hS,hl⟩:=A6 (Ab ok200 Ad);have s200:=hl 200 _ rfl;clear hl;refine Az (S:=S) hS fn331 (λds r h=>?_) (λds r h=>?_)
 ·unfold F331 at h;split at h
  ·simp
  ·cases h
 ·unfold F331 at h;split at h
  ·rename_i s t;simp only[Qb]at h;subst h;unfold dc331;have hF:∀s t,F200 [.str s,.str t]=some (.tup [.str (if BN s t=true then s.drop t.length else s),.bool (BN s t)]):=λ_ _=>rfl
   unfold C_ Co;by_cases ht:t=[]
   ·have ht':(t=[])=True:=eq_true ht;simp only[↓go1,gB2,simprocAttr,ht']
    try simp
   ·have ht':(t=[])=False:=eq_false ht;cases h1:BN s t with
    |false=>simp only[↓go1,gB2,simprocAttr,ht',Aa s200,hF,h1,Q4]
    |true=>
     cases h2:BN (s.drop t.length) [47]with
     |false=>simp only[↓go1,gB2,simprocAttr,ht',Aa s200,hF,h1,h2]
     |true=>simp only[↓go1,gB2,simprocAttr,ht',Aa s200,hF,h1,h2,gB3]
  ·cases h
def F301:List D->Option D
 |[.str s,.str t]=>some (.bool (Co s t))
 |_=>none
def ok301:(Ac F301).ok Qc 301:=by
 obtain⟨S,hS,hl⟩:=A6 (Ab ok331 Ad);have s331:=hl 331 _ rfl;clear hl;refine Az (S:=S) hS fn301 (λds r h=>?_) (λds r h=>?_)
 ·unfold F301 at h;split at h
  ·simp
  ·cases h
 ·unfold F301 at h;split at h
  ·rename_i s t;simp only[Qb]at h;subst h;unfold dc301;have hF:F331 [.str s,.str t]=some (.tup [.str (C_ s t),.bool (Co s t)]):=rfl;simp only[↓go1,gB2,simprocAttr,Aa s331,hF]
  ·cases h
def F206:List D->Option D
 |[.str s,.str t]=>some (.bool (A7 s t))
 |_=>none
def ok206:(Ac F206).ok Qc 206:=by
 obtain⟨S,hS,hl⟩:=A6 (Ab ok301 Ad);have s301:=hl 301 _ rfl;clear hl;refine Az (S:=S) hS fn206 (λds r h=>?_) (λds r h=>?_)
 ·unfold F206 at h;split at h
  ·simp
  ·cases h
 ·unfold F206 at h;split at h
  ·rename_i s t;simp only[Qb]at h;subst h;unfold dc206;have hF:F301 [.str s,.str t]=some (.bool (Co s t)):=rfl;unfold A7;by_cases hs:s=t
   ·have hs':(s=t)=True:=eq_true hs;simp only[↓go1,gB2,simprocAttr,hs']
    try simp
   ·have hs':(s=t)=False:=eq_false hs;simp only[↓go1,gB2,simprocAttr,hs',Aa s301,hF]
    try simp
  ·cases h
theorem loop212 {S : Summs} {ns : Id} {s t : Bs} {Q : Ex → St → Prop} (hb : s.length ≤ 1000000) (hl : t.length ≤ s.length)
    (hret : ∀ st, BN s t = false → st.s 4 = .bool false → Q .ret st) (hexit : ∀ st, BN s t = true → Q (.exit 0) st) :
    ∀ (n k : Nat) st g, n = t.length - k → k ≤ t.length → s.take k = t.take k → st.s 5 = .int .i64 (k : Int) → st.s 0 = .str s → st.s 1 = .str t → A4 S ns dc212l0 Q st g := by
  intro n
  induction n with
  | zero =>
    intro k st g hn hk he h5 h0 h1
    refine Ae dc212l0.eq_1 ?_
    have : ¬ ((k : Int) < t.length) := by omega
    simp only [↓go1, go2, go4, simprocAttr, h5, h1, this]
    refine hexit _ ?_
    obtain rfl : k = t.length := by omega
    simp [BN, he]
  | succ n ih =>
    intro k st g hn hk he h5 h0 h1
    refine Ae dc212l0.eq_1 ?_
    have hk1 : k < t.length := by omega
    have hk2 : k < s.length := by omega
    have hlt : ((k : Int) < t.length) := by omega
    have hk0 : (0 : Int) ≤ (k : Int) := by omega
    have hx : s[k]? = some s[k] := Qe hk2
    have hy : t[k]? = some t[k] := Qe hk1
    have hw : IntKind.i64.wrap ((k : Int) + 1) = ((k + 1 : Nat) : Int) := w64 (by omega) (by omega)
    have hc : ((s[k].toNat : Int) = (t[k].toNat : Int)) = (s[k] = t[k]) := by
      simp only [eq_iff_iff]
      constructor
      · intro h; exact UInt8.toNat_inj.1 (by omega)
      · intro h; rw [h]
    simp only [↓go1, go2, go4, simprocAttr, h5, h0, h1, hlt, hk0, hx, hy, Qd, hc]
    refine Ao.intro (Aj rfl) ?_
    simp only [↓go1, go2, reduceIte, Qn]
    refine ifQ.intro (fun h => ?_) (fun h => ?_)
    · simp only [↓go1, go2, go4, simprocAttr, h5, h, hw]
      first
        | exact ih (k + 1) _ _ (by omega) (by omega) (by rw [QH, QH, he, hx, hy, h]) rfl h0 h1
        | (refine hret _ ?_ rfl
           rw [QT]; intro hp
           have hp : s.take t.length = t := by simpa [BN] using hp
           have : s[k] = t[k] := by
             have e := congrArg (·[k]?) hp
             simp only [Qu hk1, hx, hy, Qb] at e
             exact e
           exact h this)
    · simp only [↓go1, go2, go4, Qk, h]
      first
        | exact ih (k + 1) _ _ (by omega) (by omega) (by rw [QH, QH, he, hx, hy, Classical.not_not.1 h]) rfl h0 h1
        | (refine hret _ ?_ rfl
           rw [QT]; intro hp
           have hp : s.take t.length = t := by simpa [BN] using hp
           have : s[k] = t[k] := by
             have e := congrArg (·[k]?) hp
             simp only [Qu hk1, hx, hy, Qb] at e
             exact e
           exact h this)
def F212:List D->Option D
 |[.str s,.str t]=>if s.length<=1000000 then some (.bool (BN s t))else none
 |_=>none
def ok212:(Ac F212).ok Qc 212:=by
 refine Az (S:=λ_=>none) AK fn212 (λds r h=>?_) (λds r h=>?_)
 ·unfold F212 at h;split at h
  ·simp
  ·cases h
 ·unfold F212 at h;split at h
  ·rename_i s t;split at h
   ·rename_i hc;simp only[Qb]at h;subst h;unfold dc212;have c1:((s.length:Int)<(t.length:Int))=(s.length<t.length):=by simp only[eq_iff_iff];omega
    by_cases hl:s.length<t.length
    ·have:BN s t=false:=by rw[QT];intro h;have:=hasP_len h;omega
     simp only[↓go1,gB2,simprocAttr,c1,hl,this]
    ·simp only[↓go1,go2,go4,simprocAttr,c1,hl];refine loop212 (s:=s) (t:=t) hc (by omega) (λst h1 h2=>?_) (λst h1=>?_) t.length 0 _ _ (by omega) (by omega) rfl rfl rfl rfl
     ·simp only[↓go1,gB2,h1,h2]
     ·simp only[↓go1,gB2,reduceIte,Qk,h1]
   ·cases h
  ·cases h
def hasP_slash(s t:Bs):BN s (t++[47])=(BN s t&&BN (s.drop t.length) [47]):=by
 have h:=Zb t.length s;rw[Qr];simp only[BN,decide_eq_true_eq,QV,List.length_append,gB3,Qh];constructor
 ·intro e;rw[List.take_add]at e;have e1:(s.take t.length).length=t.length:=by
   have:=congrArg Zh e;simp at this ⊢;omega
  have:=List.append_inj e e1;exact this
 ·intro⟨e1,e2⟩;rw[List.take_add,e1,e2]
def within_ref(s t:Bs):(decide (t=[])||decide (s=t)||BN s (t++[47]))=A7 s t:=by
 unfold A7 Co;rw[hasP_slash];by_cases h:t=[]
 ·subst h;by_cases hs:s=[]<;>simp[hs]
 ·simp[h]
def F111:List D->Option D
 |[.str s,.str t]=>if s.length<=1000000∧t.length<=1000000 then some (.bool (A7 s t))else none
 |_=>none
def ok111:(Ac F111).ok Qc 111:=by
 obtain⟨S,hS,hl⟩:=A6 (Ab ok212 Ad);have s212:=hl 212 _ rfl;clear hl;refine Az (S:=S) hS fn111 (λds r h=>?_) (λds r h=>?_)
 ·unfold F111 at h;split at h
  ·simp
  ·cases h
 ·unfold F111 at h;split at h
  ·rename_i s t;split at h
   ·rename_i hc;simp only[Qb]at h;subst h;unfold dc111;have hF:F212 [.str s,.str (t++[47])]=some (.bool (BN s (t++[47]))):=if_pos hc.1;have hl:(t.length+1<=9223372036854775807)=True:=eq_true (by omega);rw[←within_ref];by_cases ht:t=[]
    ·have ht':(t=[])=True:=eq_true ht;simp only[↓go1,gB2,simprocAttr,ht']
     try simp
    ·have ht':(t=[])=False:=eq_false ht;by_cases hs:s=t
     ·have hs':(s=t)=True:=eq_true hs;simp only[↓go1,gB2,simprocAttr,ht',hs']
      try simp
     ·have hs':(s=t)=False:=eq_false hs;simp only[↓go1,gB2,simprocAttr,ht',hs',Aa s212,hF,hl,gB3,Qh]
      try simp
   ·cases h
  ·cases h
end Go.Vd
namespace Go.Vd
open Go.Proofs
def dc27:=y0 f27 [] []
def fn27:Fn Qc 27 26 dc27 [.t 2]:=Am func27
def dc29:=y0 f29 [] []
def fn29:Fn Qc 29 14 dc29 [.t 2]:=Am func29
def dc44l0:=y1 f44 4 [] []
def dc44:=y0 f44 [] [(4,dc44l0)]
def fn44:Fn Qc 44 20 dc44 [.t 2]:=Am func44
def dc202l0:=y1 f202 4 [] []
def dc202:=y0 f202 [] [(4,dc202l0)]
def fn202:Fn Qc 202 31 dc202 [.t 2]:=Am func202
def dc98:=y0 f98 [] []
def fn98:Fn Qc 98 53 dc98 [.t 2]:=Am func98
def dc213:=y0 f213 [] []
def fn213:Fn Qc 213 7 dc213 [.t 2]:=Am func213
def dc217l0:=y1 Tryz.f217 4 [] []
def dc217:=y0 Tryz.f217 [] [(4,dc217l0)]
def fn217:Fn Qc 217 40 dc217 [.t 2]:=Am func217
def dc314:=y0 Tryz.f314 [] []
def fn314:Fn Qc 314 21 dc314 [.t 4]:=Am func314
def dc368:=y0 f368 [] []
def fn368:Fn Qc 368 9 dc368 [.t 4]:=Am func368
def dc369:=y0 f369 [] []
def fn369:Fn Qc 369 9 dc369 [.t 3]:=Am func369
def dc399l0:=y1 f399 2 [] []
def dc399:=y0 f399 [] [(2,dc399l0)]
def fn399:Fn Qc 399 19 dc399 [.t 4]:=Am func399
def dc214l0:=y1 f214 4 [] []
def dc214:=y0 f214 [] [(4,dc214l0)]
def fn214:Fn Qc 214 25 dc214 [.t 2]:=Am func214
def dc218l0:=y1 Tryz.f218 11 [] []
def dc218l1:=y1 Tryz.f218 4 [] [(11,dc218l0)]
def dc218:=y0 Tryz.f218 [] [(4,dc218l1)]
def fn218:Fn Qc 218 57 dc218 [.t 2]:=Am func218
def dc219l0:=y1 Tryz.f219 2 [] []
def dc219:=y0 Tryz.f219 [] [(2,dc219l0)]
def fn219:Fn Qc 219 22 dc219 [.t 4]:=Am func219
def dc220l0:=y1 f220 3 [] []
def dc220:=y0 f220 [] [(3,dc220l0)]
def fn220:Fn Qc 220 47 dc220 [.t 4]:=Am func220
def dc95:=y0 f95 [] []
def fn95:Fn Qc 95 17 dc95 [.t 4]:=Am func95
def dc199l0:=y1 f199 3 [] []
def dc199:=y0 f199 [] [(3,dc199l0)]
def fn199:Fn Qc 199 23 dc199 [.t 2]:=Am func199
def dc198l0:=y1 f198 3 [] []
def dc198:=y0 f198 [] [(3,dc198l0)]
def fn198:Fn Qc 198 30 dc198 [.t 4]:=Am func198
def dc215:=y0 f215 [] []
def fn215:Fn Qc 215 13 dc215 [.t 6]:=Am func215
def dc114l0:=y1 f114 7 [(9,[(6,2)])] []
def dc114l1:=y1 f114 4 [] [(7,dc114l0)]
def dc114:=y0 f114 [] [(4,dc114l1)]
def fn114:Fn Qc 114 40 dc114 [.t 4]:=Am func114
def dc118l0:=y1 f118 5 [] []
def dc118:=y0 f118 [] [(5,dc118l0)]
def fn118:Fn Qc 118 40 dc118 [.t 4]:=Am func118
end Go.Vd
namespace Go.Vd
open Go.Proofs Go.RowKit
def capsF(op:Int):Int:=if op=9∨op=14∨op=18 then 1 else if op=10∨op=15 then 2 else if op=11∨op=12 then 4 else if op=13∨op=16 then 8 else if op=17 then 16 else if 3<=op∧op<=8 then 32 else 0
def BX(op:Int):Bool:=decide (4<=op∧op<=18∧op≠9∧op≠14∧op≠17)
def F27:List D->Option D
 |[.int .u8 op]=>some (.int .u8 (capsF op))
 |_=>none
def ok27:(Ac F27).ok Qc 27:=by
 refine Az (S:=λ_=>none) AK fn27 (λds r h=>?_) (λds r h=>?_)
 ·unfold F27 at h;split at h
  ·simp
  ·cases h
 ·unfold F27 at h;split at h
  ·rename_i op;simp only[Qb]at h;subst h;unfold dc27;simp only[↓go1,go2,simprocAttr]
   repeat' (first|(refine ifQ.intro (λh=>?_) (λh=>?_)<;>try (exfalso;omega))|(simp only[↓go1,gB2,simprocAttr,h]))
   all_goals (first|rfl|(rw[D.int.injEq];refine⟨rfl,?_⟩;unfold capsF;(repeat' split)<;>first|rfl|(exfalso;omega)))
  ·cases h
def F29:List D->Option D
 |[.int .u8 op]=>some (.bool (BX op))
 |_=>none
def ok29:(Ac F29).ok Qc 29:=by
 refine Az (S:=λ_=>none) AK fn29 (λds r h=>?_) (λds r h=>?_)
 ·unfold F29 at h;split at h
  ·simp
  ·cases h
 ·unfold F29 at h;split at h
  ·rename_i op;simp only[Qb]at h;subst h;unfold dc29;simp only[↓go1,go2,simprocAttr]
   repeat' (first|(refine ifQ.intro (λh=>?_) (λh=>?_)<;>try (exfalso;omega))|(simp only[↓go1,gB2,simprocAttr,h]))
   all_goals (rw[D.bool.injEq,Qr];simp[BX];try omega)
  ·cases h
def Cy(c:Int):Bool:=decide (97<=c∧c<=122)||decide (48<=c∧c<=57)
def Fj(s:Bs):Nat->Nat->Bool
 |0,_=>true
 |f+1,p=>if p<s.length then Cy (at' s p)&&Fj s f (p+1)else true
def Bz(s:Bs):Bool:=decide (1<=s.length)&&decide (s.length<=8)&&Fj s s.length 0
def dec_name(s:Bs)(p:Nat)(hp:p<s.length):Cy ((Utf8.decode ⟨s.toArray⟩ p).1:Nat)=Cy (at' s p)∧(Cy (at' s p)=true->(Utf8.decode ⟨s.toArray⟩ p).2=1):=by
 have b0:=at_lt s p;by_cases h:at' s p<128
 ·have:Utf8.decode ⟨s.toArray⟩ p=(at' s p,1):=by
   unfold Utf8.decode;simp only[get_at,Zg,h,if_true]
  rw[this];exact⟨rfl,λ_=>rfl⟩
 ·have h1:Cy (at' s p)=false:=by simp[Cy];omega
  have h2:128<=(Utf8.decode ⟨s.toArray⟩ p).1:=by
   unfold Utf8.decode;simp only[get_at,Zg,h,if_false]
   (repeat' split)<;>simp_all [Utf8.runeError]<;>omega
  refine⟨?_,λe=>by rw[h1]at e;cases e⟩;rw[h1];simp[Cy];omega
def loop202{S:Summs}{ns i:Id}{s:Bs}{Q:Ex->St->Prop}{e:Bool}(hret:∀st,e=false->st.s 2= .bool false->Q .ret st)(hexit:∀st,e=true->Q (.exit 0) st):
  ∀(f p:Nat) st g,s.length<=p+f->Fj s f p=e->st.s 13= .itp i->st.m i 1=some (.it s p)->A4 S ns dc202l0 Q st g:=by
 intro f;induction f with
 |zero=>
  intro p st g hf he h0 hm;refine Ae dc202l0.eq_1 ?_;have:¬(p<s.length):=by omega
  simp only[↓go1,go2,go4,simprocAttr,hm,h0,this];exact hexit _ he.symm
 |succ f ih=>
  intro p st g hf he h0 hm;refine Ae dc202l0.eq_1 ?_;unfold Fj at he;by_cases hlt:p<s.length
  ·rw[if_pos hlt]at he;obtain⟨d1,d2⟩:=dec_name s p hlt;cases ho:Cy (at' s p)with
   |true=>
    rw[ho,Ze]at he;have w:=d2 ho;rw[ho]at d1;have d3:(97<=((Utf8.decode ⟨s.toArray⟩ p).1:Int)∧((Utf8.decode ⟨s.toArray⟩ p).1:Int)<=122)∨(48<=((Utf8.decode ⟨s.toArray⟩ p).1:Int)∧((Utf8.decode ⟨s.toArray⟩ p).1:Int)<=57):=by simpa[Cy]using d1
    have hp:st.m.put i 1 [.it s (p+(Utf8.decode ⟨s.toArray⟩ p).2)] i 1=some (.it s (p+1)):=by rw[Fh,if_pos ⟨rfl,rfl⟩,w]
    simp only[↓go1,go2,go4,simprocAttr,hm,h0,hlt]
    repeat' (first|(refine ifQ.intro (λh=>?_) (λh=>?_)<;>try (exfalso;omega))|(simp only[↓go1,go2,go4,simprocAttr,h]))
    all_goals (first|exact ih _ _ _ (by omega) he h0 hp|(exfalso;omega))
   |false=>
    rw[ho,Q4]at he;rw[ho]at d1;have d3:¬((97<=((Utf8.decode ⟨s.toArray⟩ p).1:Int)∧((Utf8.decode ⟨s.toArray⟩ p).1:Int)<=122)∨(48<=((Utf8.decode ⟨s.toArray⟩ p).1:Int)∧((Utf8.decode ⟨s.toArray⟩ p).1:Int)<=57)):=by
     intro hh;have:Cy ((Utf8.decode ⟨s.toArray⟩ p).1:Nat)=true:=by simpa[Cy]using hh
     rw[d1]at this;cases this
    simp only[↓go1,go2,go4,simprocAttr,hm,h0,hlt]
    repeat' (first|(refine ifQ.intro (λh=>?_) (λh=>?_)<;>try (exfalso;omega))|(simp only[↓go1,go2,go4,simprocAttr,h]))
    all_goals (first|exact hret _ he.symm rfl|(exfalso;omega))
  ·rw[if_neg hlt]at he;simp only[↓go1,go2,go4,simprocAttr,hm,h0,hlt];exact hexit _ he.symm
def F202:List D->Option D
 |[.str s]=>some (.bool (Bz s))
 |_=>none
def ok202:(Ac F202).ok Qc 202:=by
 refine Az (S:=λ_=>none) AK fn202 (λds r h=>?_) (λds r h=>?_)
 ·unfold F202 at h;split at h
  ·simp
  ·cases h
 ·unfold F202 at h;split at h
  ·rename_i s;simp only[Qb]at h;subst h;unfold dc202;unfold Bz;have c1:((8:Int)<(s.length:Int))=(8<s.length):=by simp only[eq_iff_iff];omega
   by_cases h0:s=[]
   ·subst h0;simp only[↓go1,gB2,simprocAttr]
    try simp
   ·have h0':(s=[])=False:=eq_false h0;have hl:1<=s.length:=by cases s with|nil=>exact absurd rfl h0|cons _ _=>simp
    by_cases h8:8<s.length
    ·simp only[↓go1,gB2,simprocAttr,h0',c1,h8];simp;omega
    ·simp only[↓go1,go2,go4,simprocAttr,h0',c1,h8];have e1:(decide (1<=s.length)&&decide (s.length<=8)&&Fj s s.length 0)=Fj s s.length 0:=by simp;omega
     rw[e1];refine loop202 (e:=Fj s s.length 0) (λst h1 h2=>?_) (λst h1=>?_) s.length 0 _ _ (by omega) rfl rfl (by simp only[];rw[Fh,if_pos ⟨rfl,rfl⟩])
     ·simp only[↓go1,gB2,h1,h2]
     ·simp only[↓go1,gB2,reduceIte,Qk,h1]
  ·cases h
def Af{m:Mem}{i i':Id}{o o':Nat}{ds:List D}:m.put i o ds i' o'=if i'=i∧o<=o'∧o'<o+ds.length then ds[o'-o]? else m i' o':=rfl
def Ap{m:Mem}{i:Id}{o:Nat}:Ag m i o 0=some []:=rfl
def Aq{m:Mem}{i:Id}{o n:Nat}:Ag m i o (n+1)=(m i o).bind λd=>(Ag m i (o+1) n).map (d::·):=by
 show(match m i o with|some d=>_|none=>none)=_;cases m i o<;>rfl
def Bk{s:Nat->D}{m:Mem}{k:Option Nat}{a:Nat}:BY [.cell k a] s m=ldD m k (s a):=by
 simp only[BY,Ff,RV.of];cases ldD m k (s a)<;>rfl
def AX{m:Mem}{n:Nat}{i:Id}{o:Nat}:ldD m (some n) (.ptr i o)=(Ag m i o n).map .agg:=rfl
def B7(k:Int)(name:Bs)(n:Int):Int:=
 if k=1 then(if n=0∧AP name=0 then 0 else 2)else if k=2 then(if 1<=n∧n<=30∧AP name=0 then 0 else 2)else if k=3 then(if n=0∧Bz name=true then 0 else 2)
 else if k=4∨k=5 then(if n=0∧name=[]then 0 else 2)else 22
def F98:List D->Option D
 |[.agg [.int .u8 k,.str name,.int .i64 n]]=>if name.length<=1000000 then some (.int .i64 (B7 k name n))else none
 |_=>none
def ok98:(Ac F98).ok Qc 98:=by
 obtain⟨S,hS,hl⟩:=A6 (Ab ok201 (Ab ok202 Ad));have s201:=hl 201 _ rfl;have s202:=hl 202 _ rfl;clear hl;refine Az (S:=S) hS fn98 (λds r h=>?_) (λds r h=>?_)
 ·unfold F98 at h;split at h
  ·simp
  ·cases h
 ·unfold F98 at h;split at h
  ·rename_i k name n;split at h
   ·rename_i hc;simp only[Qb]at h;subst h;unfold dc98;have h201:F201 [.str name]=some (.int .i64 (AP name)):=if_pos hc;have h202:F202 [.str name]=some (.bool (Bz name)):=rfl;unfold B7;generalize AP name=e at *;generalize Bz name=b at *;simp only[↓go1,go2,go3,simprocAttr,Af,Qq,Q2,gB3,Qh,Qy,Qv,and_self]
    repeat' (first|(refine ifQ.intro (λh=>?_) (λh=>?_)<;>try (exfalso;omega))|(simp only[↓go1,gB0,simprocAttr,h,Af,Qv,Aa s201,Aa s202,h201,h202]))
    all_goals (first|rfl|(rw[D.int.injEq];refine⟨rfl,?_⟩;(repeat' split)<;>first|rfl|(exfalso;simp_all;done)|(exfalso;simp_all;omega)))
   ·cases h
  ·cases h
def F213:List D->Option D
 |[.str s]=>if s.length<=1000000 then some (.bool (Bz s))else none
 |_=>none
def ok213:(Ac F213).ok Qc 213:=by
 obtain⟨S,hS,hl⟩:=A6 (Ab ok98 Ad);have s98:=hl 98 _ rfl;clear hl;refine Az (S:=S) hS fn213 (λds r h=>?_) (λds r h=>?_)
 ·unfold F213 at h;split at h
  ·simp
  ·cases h
 ·unfold F213 at h;split at h
  ·rename_i s;split at h
   ·rename_i hc;simp only[Qb]at h;subst h;unfold dc213;have hF:F98 [.agg [.int .u8 3,.str s,.int .i64 0]]=some (.int .i64 (B7 3 s 0)):=if_pos hc;have e:B7 3 s 0=if Bz s=true then 0 else 2:=by simp[B7]
    simp only[↓go1,gB2,simprocAttr,C0,Zc,Q0,QL,Qo,Q6,List.nil_append,and_self,BK,Aa s98,hF,e,gB3,Qh,and_self];cases Bz s<;>simp
   ·cases h
  ·cases h
def loop217{S:Summs}{ns:Id}{s:Bs}{Q:Ex->St->Prop}{e:Bool}(hb:s.length<=1000000)(hret:∀st,e=false->st.s 2= .bool false->Q .ret st)(hexit:∀st,e=true->Q (.exit 0) st):
  ∀(f p:Nat) st g,s.length<=p+f->p<=s.length->Fj s f p=e->st.s 0= .str s->st.s 3= .int .i64 (p:Int)->A4 S ns dc217l0 Q st g:=by
 intro f;induction f with
 |zero=>
  intro p st g hf hp he h0 h3;refine Ae dc217l0.eq_1 ?_;have:¬((p:Int)<s.length):=by omega
  simp only[↓go1,go2,go4,simprocAttr,h0,h3,this];exact hexit _ he.symm
 |succ f ih=>
  intro p st g hf hp he h0 h3;refine Ae dc217l0.eq_1 ?_;unfold Fj at he;by_cases hlt:p<s.length
  ·rw[if_pos hlt]at he;have hlt':((p:Int)<s.length):=by omega
   have hp0:(0:Int)<=(p:Int):=by omega
   obtain⟨c,hc,hc2⟩:=at_some hlt;have hw:IntKind.i64.wrap ((p:Int)+1)=((p+1:Nat):Int):=w64 (by omega) (by omega);rw[hc2]at he;cases ho:Cy (c.toNat:Nat)with
   |true=>
    rw[ho,Ze]at he;have d3:(97<=(c.toNat:Int)∧(c.toNat:Int)<=122)∨(48<=(c.toNat:Int)∧(c.toNat:Int)<=57):=by simpa[Cy]using ho
    simp only[↓go1,go2,go4,simprocAttr,h0,h3,hlt',hp0,Qd,hc]
    repeat' (first|(refine ifQ.intro (λh=>?_) (λh=>?_)<;>try (exfalso;omega))|(simp only[↓go1,go2,go4,simprocAttr,h,h0,h3,hp0,Qd,hc,hw]))
    all_goals (first|exact ih _ _ _ (by omega) (by omega) he h0 rfl|(exfalso;omega))
   |false=>
    rw[ho,Q4]at he;have d3:¬((97<=(c.toNat:Int)∧(c.toNat:Int)<=122)∨(48<=(c.toNat:Int)∧(c.toNat:Int)<=57)):=by
     intro hh;have:Cy (c.toNat:Nat)=true:=by simpa[Cy]using hh
     rw[ho]at this;cases this
    simp only[↓go1,go2,go4,simprocAttr,h0,h3,hlt',hp0,Qd,hc]
    repeat' (first|(refine ifQ.intro (λh=>?_) (λh=>?_)<;>try (exfalso;omega))|(simp only[↓go1,go2,go4,simprocAttr,h,h0,h3,hp0,Qd,hc]))
    all_goals (first|exact hret _ he.symm rfl|(exfalso;omega))
  ·rw[if_neg hlt]at he;have hlt':¬((p:Int)<s.length):=by omega
   simp only[↓go1,go2,go4,simprocAttr,h0,h3,hlt'];exact hexit _ he.symm
def F217:List D->Option D
 |[.str s]=>some (.bool (Bz s))
 |_=>none
def ok217:(Ac F217).ok Qc 217:=by
 refine Az (S:=λ_=>none) AK fn217 (λds r h=>?_) (λds r h=>?_)
 ·unfold F217 at h;split at h
  ·simp
  ·cases h
 ·unfold F217 at h;split at h
  ·rename_i s;simp only[Qb]at h;subst h;unfold dc217;unfold Bz;have c1:((8:Int)<(s.length:Int))=(8<s.length):=by simp only[eq_iff_iff];omega
   have c2:((s.length:Int)<1)=(s.length<1):=by simp only[eq_iff_iff];omega
   by_cases h0:s.length<1
   ·simp only[↓go1,gB2,simprocAttr,c2,h0];simp;omega
   ·by_cases h8:8<s.length
    ·simp only[↓go1,gB2,simprocAttr,c1,c2,h0,h8];simp;omega
    ·simp only[↓go1,go2,go4,simprocAttr,c1,c2,h0,h8];have e1:(decide (1<=s.length)&&decide (s.length<=8)&&Fj s s.length 0)=Fj s s.length 0:=by
      have a1:decide (1<=s.length)=true:=decide_eq_true (by omega);have a2:decide (s.length<=8)=true:=decide_eq_true (by omega);rw[a1,a2];rfl
     rw[e1];refine loop217 (e:=Fj s s.length 0) (by omega) (λst h1 h2=>?_) (λst h1=>?_) s.length 0 _ _ (by omega) (by omega) rfl rfl rfl
     ·simp only[↓go1,gB2,h1,h2]
     ·simp only[↓go1,gB2,reduceIte,Qk,h1]
  ·cases h
def FE(m:Mem):List D->Option D
 |[]=>some .junk
 |[.ptr i 0]=>m i 0
 |_=>none
def capR:List D->List Loc
 |[.ptr i 0]=>[(i,0)]
 |_=>[]
def capV_congr{m m':Mem}{caps:List D}(h:∀l∈capR caps,m l.1 l.2=m' l.1 l.2):FE m caps=FE m' caps:=by
 unfold FE;split
 ·rfl
 ·exact h (_,0) (by simp[capR])
 ·rfl
def cloS(F:D->D->Option D):Summ where
 rd:=λds _=>capR ds.tail
 ex:=λds m _=>match ds with
  |x::caps=>(FE m caps).bind λc=>(F c x).map λd=>(d,[])
  |[]=>none
def Fx:List (Option D)->Option (List Bool)
 |[]=>some []
 |some (.bool b)::r=>(Fx r).map (b::·)
 |_=>none
def Be(l:List Bool):Int:=match l.findIdx? id with
 |some k=>k
 |none=>-1
def Gy(l:List Bool):decide (0<=Be l)=l.any id:=by
 unfold Be;cases h:l.findIdx? id with
 |none=>
  have:=Q5.1 h;have h2:l.any id=false:=by rw[List.any_eq_false];intro x hx;simpa using this x hx
  rw[h2];simp
 |some k=>
  rw[QP]at h;obtain⟨hk,h1,_⟩:=h;have:l.any id=true:=List.any_eq_true.2 ⟨l[k],QD hk,h1⟩;rw[this];simp
def elB:Option Nat->D->Bool
 |none,.agg _=>false
 |none,_=>true
 |some n,.agg cs=>cs.length==n
 |some _,_=>false
def fnR(ds:List D):List Loc:=match ds with
 |[_,.fn _ caps]=>capR caps
 |_=>[]
def E8(g:FuncId)(k:Option Nat)(F:D->D->Option D):Summ where
 rd:=λds _=>fnR ds
 ex:=λds m _=>match ds with
  |[.slice _ _ xs,.fn g' caps]=>if g'=g∧xs.length<=1000000∧xs.all (elB k)=true then(FE m caps).bind λc=>(Fx (xs.map (F c))).map λbs=>(.int .i64 (Be bs),[])else none
  |_=>none
def cnS(g:FuncId)(k:Option Nat)(F:D->D->Option D):Summ where
 rd:=λds _=>fnR ds
 ex:=λds m _=>match ds with
  |[.slice _ _ xs,.fn g' caps]=>if g'=g∧xs.length<=1000000∧xs.all (elB k)=true then(FE m caps).bind λc=>(Fx (xs.map (F c))).map λbs=>(.bool (bs.any id),[])else none
  |_=>none
def dcIL(sz:Nat)(k:Option Nat):DC:=(.seq (.row [⟨some 9,.bin .lss (.t 8) (.t 7),[],none⟩]) (.seq (.cond (.t 9) .skip (.exit 0)) (.seq (.block 1 (.seq (.row [⟨some 10,.mv (.t 8),[],none⟩,⟨some 5,.mv (.t 10),[],none⟩]) (.seq (.row [⟨some 11,.mv (.t 1),[],none⟩,⟨some 12,.mv (.t 0),[],none⟩,⟨some 13,.mv (.t 5),[],none⟩,⟨some 14,.iaddr sz (.t 12) (.t 13),[],none⟩,⟨some 15,.load k (.t 14),[],none⟩,⟨some 16,.call (.t 11) [(.t 15)],[],none⟩]) (.cond (.t 16) (.seq (.row [⟨some 17,.mv (.t 5),[],none⟩,⟨some 4,.mv (.t 17),[],none⟩]) .ret) .skip)))) (.row [⟨some 18,.bin .add (.t 8) (.c (.int .i64 1)),[],none⟩,⟨some 8,.mv (.t 18),[],none⟩]))))
def dcI(sz:Nat)(k:Option Nat):DC:=(.seq (.row [⟨some 4,.mv (.c (.int .i64 0)),[],none⟩]) (.seq (.seq (.row [⟨some 6,.mv (.t 0),[],none⟩,⟨some 7,.len false (.t 6),[],none⟩,⟨some 8,.mv (.c (.int .i64 0)),[],none⟩]) (.block 0 (.loop (dcIL sz k)))) (.seq (.row [⟨some 4,.mv (.c (.int .i64 (-1))),[],none⟩]) .ret)))
def dcCn(f:FuncId):DC:=(.seq (.row [⟨some 4,.mv (.c (.bool false)),[],none⟩]) (.seq (.row [⟨some 5,.mv (.t 0),[],none⟩,⟨some 6,.mv (.t 1),[],none⟩,⟨some 7,.call (.c (.fn f [])) [(.t 5),(.t 6)],[],none⟩,⟨some 8,.bin .geq (.t 7) (.c (.int .i64 0)),[],none⟩,⟨some 4,.mv (.t 8),[],none⟩]) .ret))
def szOk(sz:Nat):Option Nat->Prop
 |none=>sz=1
 |some n=>sz=n
def elB_sz{sz:Nat}{k:Option Nat}(h:szOk sz k){x:D}(hx:elB k x=true):x.cells.length=sz:=by
 cases k with
 |none=>cases x<;>first|(cases hx;done)|exact h.symm
 |some n=>cases x<;>first|(cases hx;done)|(simp only[elB,beq_iff_eq]at hx;exact hx.trans h.symm)
def elB_load{m:Mem}{k:Option Nat}{x:D}{K:D->Upd->Prop}{t:Tag (m,K)}(hx:elB k x=true):loadK k (.eptr x.cells) m K t=K x []:=by
 cases k with
 |none=>cases x<;>first|(cases hx;done)|(simp only[loadK_eptr,D.cells,Qp,A5])
 |some n=>
  cases x<;>first|(cases hx;done)|skip
  rename_i cs;simp only[elB,beq_iff_eq]at hx;subst hx;simp only[loadK_eptrs,D.cells,Qs,Need_true,List.take_length]
def boolsOf_some:∀{l:List (Option D)} {bs:List Bool},Fx l=some bs->l=bs.map λb=>some (.bool b)
 |[],bs,h=>by simp only[Fx,Qb]at h;subst h;rfl
 |x::r,bs,h=>by
  unfold Fx at h;split at h
  ·rename_i e;cases e
  ·rename_i b r' e;cases e;rw[Qf]at h;obtain⟨bs',h1,rfl⟩:=h;rw[boolsOf_some h1];rfl
  ·cases h
def loopI{S:Summs}{ns:Id}{sz:Nat}{k:Option Nat}{g:FuncId}{F:D->D->Option D}{xs caps:List D}{c:D}{bs:List Bool}{nl:Bool}{t:Id}{m:Mem}{Q:Ex->St->Prop}(hsz:szOk sz k)(hg:S g=some (cloS F))(hb:xs.length<=1000000)(hel:xs.all (elB k)=true)
  (hcap:FE m caps=some c) (hbs:xs.map (F c)=bs.map λb=>some (.bool b))
  (hret:∀(j:Nat) st,st.m=m->bs.findIdx? id=some j->st.s 4= .int .i64 (j:Int)->Q .ret st) (hexit:∀st,st.m=m->bs.findIdx? id=none->Q (.exit 0) st):
  ∀(n j:Nat) st tg,n=xs.length-j->j<=xs.length->(∀i,i<j->bs[i]?=some false)->st.m=m->st.s 8= .int .i64 (j:Int)->st.s 7= .int .i64 (xs.length:Int)->st.s 0= .slice nl t xs->st.s 1= .fn g caps->A4 S ns (dcIL sz k) Q st tg:=by
 intro n;have hlen:bs.length=xs.length:=by simpa using (congrArg Zh hbs).symm
 induction n with
 |zero=>
  intro j st tg hn hj hall hm h8 h7 h0 h1;refine Ae (dcIL.eq_1 sz k) ?_;have:¬((j:Int)<xs.length):=by omega
  simp only[↓go1,go2,go4,reduceIte,Qk,h8,h7,this];refine hexit _ hm (Q5.2 λb hb'=>?_);obtain⟨i,hi,rfl⟩:=Q_ hb';have:=hall i (by omega);rw[Qe hi]at this;simpa using QG this
 |succ n ih=>
  intro j st tg hn hj hall hm h8 h7 h0 h1;refine Ae (dcIL.eq_1 sz k) ?_;have hjl:j<xs.length:=by omega
  have hlt:((j:Int)<xs.length):=by omega
  have hj0:=nJ (j:=j);have hx:xs[j]?=some xs[j]:=Qe hjl;have he:elB k xs[j]=true:=Qt.1 hel _ (QD hjl);have hcs:=elB_sz hsz he;have hw:=wJ (j:=j) (by omega);obtain⟨st_s,st_m,st_c⟩:=st;simp only at hm h8 h7 h0 h1;subst hm;have hF:F c xs[j]=some (.bool (bs[j]'(by omega))):=by
   have e:=congrArg (·[j]?) hbs;simp only[QQ,hx,Qz,Qe (show j<bs.length by omega)]at e;exact QG e
  have hex:∀fr,(cloS F).ex (xs[j]::caps) st_m fr=some (.bool (bs[j]'(by omega)),[]):=by
   intro fr;simp only[cloS,hcap,Qx,hF,Qz]
  simp only[↓go1,go2,go4,simprocAttr,h8,h7,h0,h1,hlt,hj0,Qd,hx,hcs,elB_load he,Ah hg,hex];cases hbj:bs[j]'(by omega)with
  |true=>
   simp only[↓go1,go2,simprocAttr];refine hret j _ rfl ?_ rfl;rw[QP];refine⟨by omega,by simp[hbj],λi hi=>?_⟩;have:=hall i hi;rw[Qe (by omega)]at this;simp[QG this]
  |false=>
   simp only[↓go1,go2,simprocAttr,h8,hw];refine ih (j+1) _ _ (by omega) (by omega) (λi hi=>?_) rfl rfl h7 h0 h1;rcases Nat.lt_or_eq_of_le (Nat.le_of_lt_succ hi)with hi|rfl
   ·exact hall i hi
   ·rw[Qe (by omega),hbj]
def fnR_congr{ds:List D}{m m':Mem}(h:∀l∈fnR ds,m l.1 l.2=m' l.1 l.2){x:D}{g:FuncId}{caps:List D}(e:ds=[x,.fn g caps]):FE m caps=FE m' caps:=by
 subst e;exact capV_congr h
def idx_ok{P:Program}{f g:FuncId}{sz:Nat}{k:Option Nat}{F:D->D->Option D}{N:Nat}(hN:2<=N)(hf:Fn P f N (dcI sz k) [.t 4])(hsz:szOk sz k)(hg:(cloS F).ok P g):(E8 g k F).ok P f:=by
 have hS:Summs.ok P (AF [(g,cloS F)]):=Ab hg Ad;have sg:AF [(g,cloS F)] g=some (cloS F):=by simp[AF]
 generalize AF [(g,cloS F)]=S at hS sg;refine opn_ok hS hf (λds m m' fr h=>?_) (λds m fr r u hex _=>?_)
 ·simp only[E8]at h ⊢;split
  ·rename_i nl t xs g' caps;rw[fnR_congr h rfl]
  ·rfl
 ·simp only[E8]at hex;split at hex
  ·rename_i nl t xs g' caps;split at hex
   ·rename_i hc;obtain⟨rfl,hb,hel⟩:=hc;rw[QE]at hex;obtain⟨c,hcap,hex⟩:=hex;rw[Qf]at hex;obtain⟨bs,hbs,hex⟩:=hex;simp only[Qj]at hex;obtain⟨rfl,rfl⟩:=hex;refine⟨hN,?_⟩;unfold dcI;simp only[↓go1,go2,simprocAttr];refine loopI (xs:=xs) (caps:=caps) (c:=c) (bs:=bs) (nl:=nl) (t:=t) (m:=m) hsz sg hb hel hcap (boolsOf_some hbs) (λj st hm h1 h2=>?_) (λst hm h1=>?_) xs.length 0 _ _ (by omega) (by omega) (by simp) rfl rfl rfl rfl rfl
    ·simp only[↓go1,go2,go4,h2,Be,h1,hm];exact λi o x h=>h
    ·simp only[↓go1,go2,go4,reduceIte,Qk,Be,h1,hm];exact λi o x h=>h
   ·cases hex
  ·cases hex
def cn_ok{P:Program}{f h g:FuncId}{k:Option Nat}{F:D->D->Option D}{N:Nat}(hN:2<=N)(hf:Fn P f N (dcCn h) [.t 4])(hi:(E8 g k F).ok P h):(cnS g k F).ok P f:=by
 have hS:Summs.ok P (AF [(h,E8 g k F)]):=Ab hi Ad;have sh:AF [(h,E8 g k F)] h=some (E8 g k F):=by simp[AF]
 generalize AF [(h,E8 g k F)]=S at hS sh;refine opn_ok hS hf (λds m m' fr h=>?_) (λds m fr r u hex _=>?_)
 ·simp only[cnS]at h ⊢;split
  ·rename_i nl t xs g' caps;rw[fnR_congr h rfl]
  ·rfl
 ·simp only[cnS]at hex;split at hex
  ·rename_i nl t xs g' caps;split at hex
   ·rename_i hc;rw[QE]at hex;obtain⟨c,hcap,hex⟩:=hex;rw[Qf]at hex;obtain⟨bs,hbs,hex⟩:=hex;simp only[Qj]at hex;obtain⟨rfl,rfl⟩:=hex;refine⟨hN,?_⟩;have he:∀fr,(E8 g k F).ex [.slice nl t xs,.fn g' caps] m fr=some (.int .i64 (Be bs),[]):=by
     intro fr;simp only[E8,if_pos hc,hcap,Qx,hbs,Qz]
    unfold dcCn;simp only[↓go1,go2,go4,simprocAttr,Ah sh,he];exact⟨by rw[←Gy],λi o x h=>h⟩
   ·cases hex
  ·cases hex
end Go.Vd
namespace Go.Vd
open Go.Proofs
def dc204:=y0 f204 [] []
def fn204:Fn Qc 204 8 dc204 [.t 3]:=Am func204
def dc205:=y0 f205 [] []
def fn205:Fn Qc 205 12 dc205 [.t 3]:=Am func205
def dc103:=y0 f103 [] []
def fn103:Fn Qc 103 9 dc103 [.t 4]:=Am func103
def dc104:=y0 f104 [] []
def fn104:Fn Qc 104 8 dc104 [.t 4]:=Am func104
end Go.Vd
namespace Go.Vd
open Go.Proofs Go.RowKit
def clo_ok{S:Summs}{P:Program}{f:FuncId}{N:Nat}{dc:DC}{rs:List RV}{F:D->D->Option D}(hS:Summs.ok P S)(hf:Fn P f N dc rs)
  (hwp:∀x caps m fr c d,FE m caps=some c->F c x=some d->(∀k i o,(k::fr)<:+i->m i o=none)->caps.length<=1->(caps.length+1<=N)∧dc.wp S fr (DY rs λd' m'=>d'=d∧∀i o y,m i o=some y->m' i o=some y) ⟨Br (x::caps),m,0⟩):(cloS F).ok P f:=by
 refine opn_ok hS hf (λds m m' fr h=>?_) (λds m fr r u hex hfr=>?_)
 ·simp only[cloS]at h ⊢;split
  ·rename_i x caps;rw[capV_congr (m:=m) (m':=m') (caps:=caps) h]
  ·rfl
 ·simp only[cloS]at hex;split at hex
  ·rename_i x caps;rw[QE]at hex;obtain⟨c,hcap,hex⟩:=hex;rw[Qf]at hex;obtain⟨d,hd,hex⟩:=hex;simp only[Qj]at hex;obtain⟨rfl,rfl⟩:=hex;have hl:caps.length<=1:=by
    unfold FE at hcap;split at hcap
    ·simp
    ·simp
    ·cases hcap
   obtain⟨h1,h2⟩:=hwp x caps m fr c d hcap hd hfr hl;exact⟨h1,h2⟩
  ·cases hex
def capV_str{m:Mem}{caps:List D}{p:Bs}(h:FE m caps=some (.str p)):∃i,caps=[.ptr i 0]∧m i 0=some (.str p):=by
 unfold FE at h;split at h
 ·cases h
 ·exact⟨_,rfl,h⟩
 ·cases h
def K369:D->D->Option D
 | .str p,.agg [.str q,.int .u8 _]=>some (.bool (decide (q=p)))
 |_,_=>none
def K204:D->D->Option D
 | .str p,.agg [.str q,.int .i64 _,.bool _]=>some (.bool (decide (q=p)))
 |_,_=>none
def K205:D->D->Option D
 | .str p,.str q=>some (.bool (A7 p q||A7 q p))
 |_,_=>none
def clo369:(cloS K369).ok Qc 369:=by
 refine clo_ok (S:=λ_=>none) AK fn369 (λx caps m fr c d hcap hF hfr hl=>⟨by omega,?_⟩);unfold K369 at hF;split at hF
 ·rename_i p q k;simp only[Qb]at hF;subst hF;obtain⟨i,rfl,hm⟩:=capV_str hcap;have hi:i≠0::fr:=by rintro rfl;have:=hfr 0 (0::fr) 0 (QW _);rw[hm]at this;cases this
  unfold dc369;simp only[↓go1,gB0,simprocAttr,hm,hi,Af];intro i o y h;split
  ·rename_i e;rw[e.1,hfr 0 _ o (QW _)]at h;cases h
  ·exact h
 ·cases hF
def clo204:(cloS K204).ok Qc 204:=by
 refine clo_ok (S:=λ_=>none) AK fn204 (λx caps m fr c d hcap hF hfr hl=>⟨by omega,?_⟩);unfold K204 at hF;split at hF
 ·rename_i p q k b;simp only[Qb]at hF;subst hF;obtain⟨i,rfl,hm⟩:=capV_str hcap;have hi:i≠0::fr:=by rintro rfl;have:=hfr 0 (0::fr) 0 (QW _);rw[hm]at this;cases this
  unfold dc204;simp only[↓go1,gB0,simprocAttr,hm,hi,Af];intro i o y h;split
  ·rename_i e;rw[e.1,hfr 0 _ o (QW _)]at h;cases h
  ·exact h
 ·cases hF
def clo205:(cloS K205).ok Qc 205:=by
 obtain⟨S,hS,hl⟩:=A6 (Ab ok206 Ad);have s206:=hl 206 _ rfl;clear hl;refine clo_ok (S:=S) hS fn205 (λx caps m fr c d hcap hF hfr hl=>⟨by omega,?_⟩);unfold K205 at hF;split at hF
 ·rename_i p q;simp only[Qb]at hF;subst hF;obtain⟨i,rfl,hm⟩:=capV_str hcap;have h206:∀p q,F206 [.str p,.str q]=some (.bool (A7 p q)):=λ_ _=>rfl
  unfold dc205;cases h1:A7 p q with
  |false=>simp only[↓go1,gB2,simprocAttr,hm,Aa s206,h206,h1];simp
  |true=>simp only[↓go1,gB2,simprocAttr,hm,Aa s206,h206,h1];simp
 ·cases hF
def fn203:Fn Qc 203 19 (dcI 3 (some 3)) [.t 4]:=⟨f203,_,func203,rfl,by kernel_rfl,rfl,by kernel_rfl,by kernel_rfl⟩
def fn297:Fn Qc 297 19 (dcI 1 none) [.t 4]:=⟨f297,_,func297,rfl,by kernel_rfl,rfl,by kernel_rfl,by kernel_rfl⟩
def fn388:Fn Qc 388 19 (dcI 1 none) [.t 4]:=⟨f388,_,func388,rfl,by kernel_rfl,rfl,by kernel_rfl,by kernel_rfl⟩
def fn192:Fn Qc 192 9 (dcCn 297) [.t 4]:=⟨f192,_,func192,rfl,by kernel_rfl,rfl,by kernel_rfl,by kernel_rfl⟩
def fn343:Fn Qc 343 9 (dcCn 388) [.t 4]:=⟨f343,_,func343,rfl,by kernel_rfl,rfl,by kernel_rfl,by kernel_rfl⟩
def idx399:(E8 369 (some 2) K369).ok Qc 399:=idx_ok (by omega) fn399 rfl clo369
def cn368:(cnS 369 (some 2) K369).ok Qc 368:=cn_ok (by omega) fn368 idx399
def idx203:(E8 204 (some 3) K204).ok Qc 203:=idx_ok (by omega) fn203 rfl clo204
def idx297:(E8 205 none K205).ok Qc 297:=idx_ok (by omega) fn297 rfl clo205
def cn192:(cnS 205 none K205).ok Qc 192:=cn_ok (by omega) fn192 idx297
abbrev Rl:=Bs×Int
def rlD(r:Rl):D:= .agg [.str r.1,.int .u8 r.2]
def Al(l:List Rl):List D:=l.map rlD
def rlT:D->Rl
 | .agg [.str q,.int .u8 k]=>(q,k)
 |_=>([],0)
def Bb(xs:List D):List Rl:=xs.map rlT
def AR(l:List Rl):Bb (Al l)=l:=by
 simp only[Bb,Al,QI]
 conv=>rhs;rw[←List.map_id l]
 exact QC λr _=>rfl
def Bp(l:List Rl)(j:Nat):Rl:=l.getD j ([],0)
def As(l:List Rl):(Al l).length=l.length:=Qg ..
def Dx{l:List Rl}{j:Nat}(h:j<l.length):(Al l)[j]?=some (rlD (Bp l j)):=by
 simp[Al,Bp,Qe h]
def rlsD_take(l:List Rl)(j:Nat):(Al l).take j=Al (l.take j):=(List.map_take ..).symm
def rlsD_elB(l:List Rl):(Al l).all (elB (some 2))=true:=by
 rw[Qt];intro x hx;obtain⟨r,_,rfl⟩:=Q9.1 hx;rfl
def rlsD_head(l:List Rl):D.headSz (Al l) 2=2:=by cases l<;>rfl
def FK(l:List Rl)(q:Bs):Bool:=l.any λr=>decide (r.1=q)
def EM(r:Rl)(l:List Rl):Int:=if r.1≠[]∧AP r.1≠0 then AP r.1 else if 63<r.2 then 2 else if FK l r.1=true then 20 else 0
def CW(l:List Rl):Nat->Nat->Int
 |0,_=>0
 |f+1,j=>if j<l.length then(if EM (Bp l j) (l.take j)≠0 then EM (Bp l j) (l.take j)else CW l f (j+1))else 0
def Cm(l:List Rl):Int:=if 4<l.length then 24 else CW l l.length 0
def BJ(l:List Rl):Prop:=∀r∈l,r.1.length<=1000000
def prefB_at{l:List Rl}(h:BJ l){j:Nat}(hj:j<l.length):(Bp l j).1.length<=1000000:=by
 have:Bp l j=l[j]:=by simp[Bp,Qe hj]
 rw[this];exact h _ (QD hj)
def Dp(bs:List Bool):Fx (bs.map λb=>some (.bool b))=some bs:=by
 induction bs with
 |nil=>rfl
 |cons b r ih=>simp only[QM,Fx,ih,Qz]
def cn368_ex{l:List Rl}{nl:Bool}{t:Id}(hl:l.length<=1000000){q:Bs}(m:Mem)(fr i:Id)(hm:m i 0=some (.str q)):
  (cnS 369 (some 2) K369).ex [.slice nl t (Al l),.fn 369 [.ptr i 0]] m fr=some (.bool (FK l q),[]):=by
 have e:(Al l).map (K369 (.str q))=(l.map λr=>decide (r.1=q)).map λb=>some (.bool b):=by
  simp only[Al,QI];exact QC λr _=>rfl
 simp only[cnS,As,hl,rlsD_elB,and_self,if_true,FE,hm,Qx,e,Dp,Qz];simp only[FK,List.any_map];rfl
open Classical in
def F314:List D->Option D
 |[.agg [.str q,.int .u8 k],.slice _ _ xs]=>if xs=Al (Bb xs)∧xs.length<=1000000∧q.length<=1000000 then some (.int .i64 (EM (q,k) (Bb xs)))else none
 |_=>none
def ok314:(Ac F314).ok Qc 314:=by
 obtain⟨S,hS,hl⟩:=A6 (Ab ok201 (Ab cn368 Ad));have s201:=hl 201 _ rfl;have s368:=hl 368 _ rfl;clear hl;refine Az (S:=S) hS fn314 (λds r h=>?_) (λds r h=>?_)
 ·unfold F314 at h;split at h
  ·simp
  ·cases h
 ·unfold F314 at h;split at h
  ·rename_i q k nl t xs;split at h
   ·rename_i hc;obtain⟨hx,hlen,hq⟩:=hc;simp only[Qb]at h;subst h;generalize Bb xs=l at hx;subst hx;rw[As]at hlen;have h201:F201 [.str q]=some (.int .i64 (AP q)):=if_pos hq;unfold dc314 EM;generalize AP q=e at *;simp only[↓go1,go2,go3,simprocAttr,Af,Qq,Q2,gB3,Qh,Qy,and_self]
    repeat' (first|(refine ifQ.intro (λh=>?_) (λh=>?_)<;>try (exfalso;omega))|(simp only[↓go1,gB0,simprocAttr,h,Af,Qv,Aa s201,h201,Ah s368,cn368_ex (q:=q) hlen]))
    all_goals (first|rfl|(rw[D.int.injEq];refine⟨rfl,?_⟩;(repeat' split)<;>first|rfl|(exfalso;simp_all;done)|(exfalso;simp_all;omega)))
   ·cases h
  ·cases h
open Classical in
def F314_eq{q:Bs}{k:Int}{nl:Bool}{t:Id}{l:List Rl}(hl:l.length<=1000000)(hq:q.length<=1000000):F314 [.agg [.str q,.int .u8 k],.slice nl t (Al l)]=some (.int .i64 (EM (q,k) l)):=by
 have h:Al l=Al (Bb (Al l))∧(Al l).length<=1000000∧q.length<=1000000:=⟨by rw[AR],by rw[As];exact hl,hq⟩;show(if _ then _ else _)=_;rw[if_pos h,AR]
def loop214{S:Summs}{ns:Id}{l:List Rl}{nl:Bool}{t:Id}{Q:Ex->St->Prop}{e:Int}(s314:S 314=some (Ac F314))(hb:l.length<=4)(hp:BJ l)
  (hret:∀st,e≠0->st.s 2= .int .i64 e->Q .ret st) (hexit:∀st,e=0->Q (.exit 0) st):
  ∀(f j:Nat) st g,l.length=j+f->CW l f j=e->st.s 0= .slice nl t (Al l)->st.s 9= .slice nl t (Al l)->st.s 10= .int .i64 (l.length:Int)->st.s 11= .int .i64 (j:Int)->A4 S ns dc214l0 Q st g:=by
 intro f;induction f with
 |zero=>
  intro j st g hf he h0 h9 h10 h11;refine Ae dc214l0.eq_1 ?_;have:¬((j:Int)<l.length):=by omega
  simp only[↓go1,go2,go4,reduceIte,Qk,h10,h11,this];exact hexit _ he.symm
 |succ f ih=>
  intro j st g hf he h0 h9 h10 h11;refine Ae dc214l0.eq_1 ?_;unfold CW at he;have hj:j<l.length:=by omega
  rw[if_pos hj]at he;have hlt:((j:Int)<l.length):=by omega
  have hj0:=nJ (j:=j);have hjl:((j:Int)<=l.length):=by omega
  have hw:=wJ (j:=j) (by omega);have hat:=Dx hj;have hq:=prefB_at hp hj;generalize hr:Bp l j=r at he hat hq;obtain⟨q,k⟩:=r;have hat':(Al l)[j]?=some (.agg [.str q,.int .u8 k]):=hat;have hF:=F314_eq (nl:=nl) (t:=[]) (l:=l.take j) (q:=q) (k:=k) (by simp;omega) hq;generalize EM (q,k) (l.take j)=e' at he hF;obtain⟨st_s,st_m,st_c⟩:=st;simp only at h0 h9 h10 h11;simp only[↓go1,gB0,simprocAttr,h0,h9,h10,h11,hlt,hj0,hjl,Qd,hat',As,rlsD_head,rlsD_take,Aa s314,hF,Af,Ap,Aq,Qv,Qx,Q0,Zc,Zf,Qo];refine Ao.intro (Aj rfl) ?_;simp only[↓go1,go2,go3,simprocAttr,rlsD_take,Qo];refine ifQ.intro (λh=>?_) (λh=>?_)
  ·rw[if_neg (by simpa using h)]at he;simp only[↓go1,go2,go3,simprocAttr,h11,rlsD_take,Qo,hw];exact ih (j+1) _ _ (by omega) he h0 h9 h10 rfl
  ·rw[if_pos h]at he;simp only[↓go1,go2,go3,simprocAttr,rlsD_take,Qo];exact hret _ (he▸h) (by rw[←he];rfl)
open Classical in
def Fpol:List D->Option D
 |[.slice _ _ xs]=>if xs=Al (Bb xs)∧xs.length<=1000000∧BJ (Bb xs)then some (.int .i64 (Cm (Bb xs)))else none
 |_=>none
open Classical in
def Fpol_eq{nl:Bool}{t:Id}{l:List Rl}(hl:l.length<=1000000)(hp:BJ l):Fpol [.slice nl t (Al l)]=some (.int .i64 (Cm l)):=by
 have h:Al l=Al (Bb (Al l))∧(Al l).length<=1000000∧BJ (Bb (Al l)):=by rw[AR,As];exact⟨rfl,hl,hp⟩
 show(if _ then _ else _)=_;rw[if_pos h,AR]
open Classical in
def Fpol_inv{ds:List D}{r:D}(h:Fpol ds=some r):∃nl t l,ds=[.slice nl t (Al l)]∧l.length<=1000000∧BJ l∧r= .int .i64 (Cm l):=by
 unfold Fpol at h;split at h
 ·rename_i nl t xs;split at h
  ·rename_i hc;obtain⟨h1,h2,h3⟩:=hc;simp only[Qb]at h;subst h;refine⟨nl,t,Bb xs,by rw[←h1],?_,h3,rfl⟩;rw[h1,As]at h2;exact h2
  ·cases h
 ·cases h
def ok214:(Ac Fpol).ok Qc 214:=by
 obtain⟨S,hS,hl⟩:=A6 (Ab ok314 Ad);have s314:=hl 314 _ rfl;clear hl;refine Az (S:=S) hS fn214 (λds r h=>?_) (λds r h=>?_)
 ·obtain⟨nl,t,l,rfl,_⟩:=Fpol_inv h;simp
 ·obtain⟨nl,t,l,rfl,hl,hp,rfl⟩:=Fpol_inv h;unfold dc214 Cm;by_cases h4:4<l.length
  ·have h4':((4:Int)<l.length):=by omega
   simp only[↓go1,gB2,simprocAttr,As,h4',h4]
  ·have h4':¬((4:Int)<l.length):=by omega
   simp only[↓go1,go2,go4,simprocAttr,As,h4'];refine loop214 (l:=l) (nl:=nl) (t:=t) (e:=CW l l.length 0) s314 (by omega) hp (λst h1 h2=>?_) (λst h1=>?_) l.length 0 _ _ (by omega) rfl rfl rfl rfl rfl
   ·simp only[↓go1,gB2,h2];rw[if_neg h4]
   ·simp only[↓go1,gB2,reduceIte,Qk,h1];rw[if_neg h4]
def usedP_take_succ(l:List Rl)(q:Bs){i:Nat}(hi:i<l.length):FK (l.take (i+1)) q=(FK (l.take i) q||decide ((Bp l i).1=q)):=by
 have e:Bp l i=l[i]:=by simp[Bp,Qe hi]
 unfold FK;rw[List.take_succ_eq_append_getElem hi,List.any_append,e];simp
def usedP_take_le(l:List Rl)(q:Bs){i j:Nat}(h:i<=j)(hu:FK (l.take i) q=true):FK (l.take j) q=true:=by
 unfold FK at *;rw[List.any_eq_true]at *;obtain⟨x,hx,h2⟩:=hu;exact⟨x,(List.take_subset_take_left l h) hx,h2⟩
def loop218i{S:Summs}{ns:Id}{l:List Rl}{nl:Bool}{t:Id}{Q:Ex->St->Prop}{i:Nat}{q:Bs}(hb:l.length<=4)(hi:i<l.length)(hq:(Bp l i).1=q)
  (hret:∀st,FK (l.take i) q=true->st.s 2= .int .i64 20->Q .ret st) (hexit:∀st,FK (l.take i) q=false->st.s 0= .slice nl t (Al l)->st.s 3= .int .i64 (i:Int)->Q (.exit 2) st):
  ∀(f j:Nat) st g,i=j+f->FK (l.take j) q=false->st.s 0= .slice nl t (Al l)->st.s 3= .int .i64 (i:Int)->st.s 4= .int .i64 (j:Int)->A4 S ns dc218l0 Q st g:=by
 intro f;induction f with
 |zero=>
  intro j st g hf he h0 h3 h4;refine Ae dc218l0.eq_1 ?_;have:¬((j:Int)<i):=by omega
  simp only[↓go1,go2,go4,simprocAttr,h3,h4,this];exact hexit _ (by rw[show i=j by omega];exact he) h0 h3
 |succ f ih=>
  intro j st g hf he h0 h3 h4;refine Ae dc218l0.eq_1 ?_;have hlt:((j:Int)<i):=by omega
  have hj0:=nJ (j:=j);have hi0:(0:Int)<=(i:Int):=by omega
  have hw:=wJ (j:=j) (by omega);have hat:(Al l)[j]?=some (.agg [.str (Bp l j).1,.int .u8 (Bp l j).2]):=Dx (by omega);have hati:(Al l)[i]?=some (.agg [.str q,.int .u8 (Bp l i).2]):=by rw[←hq];exact Dx hi
  have hu:=usedP_take_succ l q (show j<l.length by omega);rw[he,Bool.false_or]at hu;generalize Bp l j=r at hat hu;obtain⟨st_s,st_m,st_c⟩:=st;simp only at h0 h3 h4;simp only[↓go1,gB2,simprocAttr,h0,h3,h4,hlt,hj0,hi0,Qd,hat,hati,Qq,gB3,Qh,Qo,Qp];refine Ao.intro (Aj rfl) ?_;simp only[↓go1,go2,go3,reduceIte,Qn];refine ifQ.intro (λh=>?_) (λh=>?_)
  ·simp only[↓go1,go2,go3,Qk];exact hret _ (usedP_take_le l q (show j+1<=i by omega) (by rw[hu];simpa using h)) rfl
  ·simp only[↓go1,go2,go3,simprocAttr,h4,hw];exact ih (j+1) _ _ (by omega) (by rw[hu];simpa using h) h0 h3 rfl
def loop218{S:Summs}{ns:Id}{l:List Rl}{nl:Bool}{t:Id}{Q:Ex->St->Prop}{e:Int}(s211:S 211=some (Ac F211))(hb:l.length<=4)(hp:BJ l)
  (hret:∀st,e≠0->st.s 2= .int .i64 e->Q .ret st) (hexit:∀st,e=0->Q (.exit 0) st):
  ∀(f i:Nat) st g,l.length=i+f->CW l f i=e->st.s 0= .slice nl t (Al l)->st.s 3= .int .i64 (i:Int)->A4 S ns dc218l1 Q st g:=by
 intro f;induction f with
 |zero=>
  intro i st g hf he h0 h3;refine Ae dc218l1.eq_1 ?_;have:¬((i:Int)<l.length):=by omega
  simp only[↓go1,go2,go4,simprocAttr,h0,h3,this,As];exact hexit _ he.symm
 |succ f ih=>
  intro i st g hf he h0 h3;refine Ae dc218l1.eq_1 ?_;unfold CW at he;have hi:i<l.length:=by omega
  rw[if_pos hi]at he;have hlt:((i:Int)<l.length):=by omega
  have hi0:(0:Int)<=(i:Int):=by omega
  have hw:IntKind.i64.wrap ((i:Int)+1)=((i+1:Nat):Int):=w64 (by omega) (by omega);have hat:=Dx hi;have hq:=prefB_at hp hi;generalize hr:Bp l i=r at he hat hq;obtain⟨q,k⟩:=r;replace hat:(Al l)[i]?=some (.agg [.str q,.int .u8 k]):=hat;have hF:F211 [.str q]=some (.int .i64 (AP q)):=if_pos hq;unfold EM at he;generalize AP q=er at he hF;obtain⟨st_s,st_m,st_c⟩:=st;simp only at h0 h3;have hret':∀st (v:Int),st.s 2= .int .i64 v->v=e->v≠0->Q .ret st:=λst v h1 h2 h3=>hret st (h2▸h3) (h2▸h1)
  simp only at he;simp only[↓go1,gB2,simprocAttr,h0,h3,hlt,hi0,Qd,hat,As,Qq,gB3,Qh,Qo,Qp]
  repeat' (first|(refine ifQ.intro (λh=>?_) (λh=>?_)<;>try (exfalso;omega))|(simp only[↓go1,gB2,simprocAttr,h,h0,h3,hi0,Qd,hat,Aa s211,hF,Qq,gB3,Qh,Qo,QL,Qp]))
  all_goals (try (refine hret' _ _ rfl ?_ ?_<;>first|omega|(simp_all;done)))
  all_goals (refine loop218i (l:=l) (nl:=nl) (t:=t) (i:=i) (q:=q) hb hi (by rw[hr]) (λst h1 h2=>?_) (λst h1 h2 h3=>?_) i 0 _ _ (by omega) (by simp[FK]) h0 h3 rfl)
  all_goals (first|(simp only[↓go1,go2,simprocAttr];refine hret' _ _ h2 (by simp_all) (by decide))|(simp only[↓go1,go2,simprocAttr,h3,hw];exact ih (i+1) _ _ (by omega) (by simp_all) h2 rfl))
def ok218:(Ac Fpol).ok Qc 218:=by
 obtain⟨S,hS,hl⟩:=A6 (Ab ok211 Ad);have s211:=hl 211 _ rfl;clear hl;refine Az (S:=S) hS fn218 (λds r h=>?_) (λds r h=>?_)
 ·obtain⟨nl,t,l,rfl,_⟩:=Fpol_inv h;simp
 ·obtain⟨nl,t,l,rfl,hl,hp,rfl⟩:=Fpol_inv h;unfold dc218 Cm;by_cases h4:4<l.length
  ·have h4':((4:Int)<l.length):=by omega
   simp only[↓go1,gB2,simprocAttr,As,h4',h4]
  ·have h4':¬((4:Int)<l.length):=by omega
   simp only[↓go1,go2,go4,simprocAttr,As,h4'];refine loop218 (l:=l) (nl:=nl) (t:=t) (e:=CW l l.length 0) s211 (by omega) hp (λst h1 h2=>?_) (λst h1=>?_) l.length 0 _ _ (by omega) rfl rfl rfl
   ·simp only[↓go1,gB2,h2];rw[if_neg h4]
   ·simp only[↓go1,gB2,reduceIte,Qk,h1];rw[if_neg h4]
def v_andNot{k:IntKind}{a b:Int}:A_ .andNot (.int k a) (.int k b)=some (.int k (bits .andNot k a b)):=by simp[A_]
def hasR:Nat->Nat->Nat->Bool
 |0,_,_=>true
 |f+1,a,c=>if c % 2=1∧a % 2=0 then false else hasR f (a / 2) (c / 2)
def hasR_bits:∀(f a c:Nat),hasR f a c=true↔∀i,i<f->c.testBit i=true->a.testBit i=true
 |0,a,c=>by simp[hasR]
 |f+1,a,c=>by
  have ih:=hasR_bits f (a / 2) (c / 2);have h0:∀n:Nat,n.testBit 0=decide (n % 2=1):=λn=>Nat.testBit_zero n
  unfold hasR;by_cases h:c % 2=1∧a % 2=0
  ·rw[if_pos h];constructor
   ·intro h;cases h
   ·intro h1;have h2:=h1 0 (by omega) (by rw[h0];simp[h.1]);rw[h0,decide_eq_true_iff]at h2;omega
  ·rw[if_neg h,ih];constructor
   ·intro h1 i hi h2;cases i with
    |zero=>
     rw[h0,decide_eq_true_iff]at h2 ⊢;omega
    |succ i=>
     rw[Q7]at h2 ⊢;exact h1 i (by omega) h2
   ·intro h1 i hi h2;have:=h1 (i+1) (by omega) (by rw[Q7];exact h2)
    rwa [Q7]at this
def hasB(a c:Nat):Bool:=Nat.beq (QU c (255-a)) 0
def hasR_eq{a c:Nat}(ha:a<256)(hc:c<256):hasR 8 a c=hasB a c:=by
 rw[Qr,hasR_bits];have e:∀i,(QU c (255-a)).testBit i=(c.testBit i&&(decide (i<8)&&!a.testBit i)):=by
  intro i;show(c&&& (255-a)).testBit i=_;rw[Nat.testBit_and,show 255-a=2 ^ 8-(a+1)by omega,Nat.testBit_two_pow_sub_succ (by omega)]
 constructor
 ·intro h;unfold hasB;have:QU c (255-a)=0:=by
   refine Nat.eq_of_testBit_eq λi=>?_
   rw[e,Nat.zero_testBit];by_cases hi:i<8
   ·cases h1:c.testBit i with
    |false=>rfl
    |true=>rw[h i hi h1];simp
   ·simp[hi]
  rw[this];rfl
 ·intro h i hi h1;have h2:QU c (255-a)=0:=Nat.eq_of_beq_eq_true h;have h3:=e i;rw[h2,Nat.zero_testBit,h1]at h3;simpa[hi]using h3.symm
def u8id{x:Nat}(h:x<256):IntKind.u8.wrap (x:Int)=x:=by
 simp only[IntKind.wrap,IntKind.signed,IntKind.bits,Q4,QF,if_false];omega
def andNot_nat{a c:Nat}(ha:a<256)(hc:c<256):bits .andNot .u8 (c:Int) (a:Int)=((QU c (255-a):Nat):Int):=by
 have h1:(BitVec.ofInt 8 (c:Int)).toNat=c:=by rw[BitVec.toNat_ofInt];omega
 have h2:(BitVec.ofInt 8 (a:Int)).toNat=a:=by rw[BitVec.toNat_ofInt];omega
 have h3:(BitVec.ofInt 8 (c:Int)&&& ~~~ BitVec.ofInt 8 (a:Int)).toNat=QU c (255-a):=by
  rw[BitVec.toNat_and,BitVec.toNat_not,h1,h2];rfl
 have h4:QU c (255-a)<=c:=Nat.and_le_left;show IntKind.u8.wrap ((BitVec.ofInt 8 (c:Int)&&& ~~~ BitVec.ofInt 8 (a:Int)).toNat:Int)=_;rw[h3];generalize QU c (255-a)=x at h4;exact u8id (by omega)
def u8half{a:Nat}(ha:a<256):IntKind.u8.wrap ((a:Int).tdiv 2)=((a / 2:Nat):Int):=by
 rw[show(a:Int).tdiv 2=((a / 2:Nat):Int)by rw[Int.natCast_ediv];exact Int.tdiv_eq_ediv_of_nonneg (by omega)];exact u8id (by omega)
def natmod2{a:Nat}:(a:Int).tmod 2=((a % 2:Nat):Int):=rfl
def loop219{S:Summs}{ns:Id}{Q:Ex->St->Prop}{e:Bool}
  (hret:∀st,e=false->st.s 4= .bool false->Q .ret st) (hexit:∀st,e=true->Q (.exit 0) st):
  ∀(f i a c:Nat) st g,8=i+f->a<256->c<256->hasR f a c=e->st.s 0= .int .u8 (a:Int)->st.s 1= .int .u8 (c:Int)->st.s 5= .int .i64 (i:Int)->A4 S ns dc219l0 Q st g:=by
 intro f;induction f with
 |zero=>
  intro i a c st g hf ha hc he h0 h1 h5;refine Ae dc219l0.eq_1 ?_;have:¬((i:Int)<8):=by omega
  simp only[↓go1,go2,go4,simprocAttr,h5,this];exact hexit _ he.symm
 |succ f ih=>
  intro i a c st g hf ha hc he h0 h1 h5;refine Ae dc219l0.eq_1 ?_;unfold hasR at he;have hlt:((i:Int)<8):=by omega
  have hw:IntKind.i64.wrap ((i:Int)+1)=((i+1:Nat):Int):=w64 (by omega) (by omega);have n2:((2:Int)=0)=False:=by simp
  have ua:=u8half ha;have uc:=u8half hc;obtain⟨st_s,st_m,st_c⟩:=st;simp only at h0 h1 h5;by_cases hc1:c % 2=1
  ·have ec:(((c % 2:Nat):Int)=1)=True:=eq_true (by omega);by_cases ha1:a % 2=0
   ·have ea:(((a % 2:Nat):Int)=0)=True:=eq_true (by omega);rw[if_pos ⟨hc1,ha1⟩]at he;simp only[↓go1,go2,go4,simprocAttr,h0,h1,h5,hlt,natmod2,ec,ea,n2,ne_eq];exact hret _ he.symm rfl
   ·have ea:(((a % 2:Nat):Int)=0)=False:=eq_false (by omega);rw[if_neg (λh=>ha1 h.2)]at he;simp only[↓go1,go2,go4,simprocAttr,h0,h1,h5,hlt,hw,natmod2,ec,ea,n2,ua,uc,ne_eq];exact ih (i+1) _ _ _ _ (by omega) (by omega) (by omega) he rfl rfl rfl
  ·have ec:(((c % 2:Nat):Int)=1)=False:=eq_false (by omega);rw[if_neg (λh=>hc1 h.1)]at he;simp only[↓go1,go2,go4,simprocAttr,h0,h1,h5,hlt,hw,natmod2,ec,n2,ua,uc,ne_eq];exact ih (i+1) _ _ _ _ (by omega) (by omega) (by omega) he rfl rfl rfl
def F219:List D->Option D
 |[.int .u8 a,.int .u8 c]=>if 0<=a∧a<256∧0<=c∧c<256 then some (.bool (hasB a.toNat c.toNat))else none
 |_=>none
def ok219:(Ac F219).ok Qc 219:=by
 refine Az (S:=λ_=>none) AK fn219 (λds r h=>?_) (λds r h=>?_)
 ·unfold F219 at h;split at h
  ·simp
  ·cases h
 ·unfold F219 at h;split at h
  ·rename_i a c;split at h
   ·rename_i hc;obtain⟨h1,h2,h3,h4⟩:=hc;simp only[Qb]at h;subst h;obtain⟨a,rfl⟩:=Ql h1;obtain⟨c,rfl⟩:=Ql h3;simp only[Qd];have ha:a<256:=by omega
    have hc:c<256:=by omega
    unfold dc219;simp only[↓go1,go2,Qk];refine loop219 (e:=hasB a c) (λst h1 h2=>?_) (λst h1=>?_) 8 0 a c _ _ (by omega) ha hc (hasR_eq ha hc) rfl rfl rfl
    ·simp only[↓go1,gB2,h1,h2]
    ·simp only[↓go1,gB2,reduceIte,Qk,h1]
   ·cases h
  ·cases h
structure RI (fr r:Id) (m0 m:Mem) (l:List Bs) (j:Nat):Prop where
 row:∀i,i<l.length->m r i=some (.str (if i<j then l.getD i []else []))
 out:∀i o,¬fr<:+i->m i o=m0 i o
def RI.put{fr r:Id}{m0 m:Mem}{l:List Bs}{j k o:Nat}{ds:List D}(h:RI fr r m0 m l j)(hk:(k::fr)≠r):RI fr r m0 (m.put (k::fr) o ds) l j:=by
 refine⟨λi hi=>?_,λi o' hn=>?_⟩
 ·rw[Mem.put_other (λe=>hk e.symm)];exact h.row i hi
 ·rw[Mem.put_other (λe=>hn (by rw[e];exact Qw _ _))];exact h.out i o' hn
def RI.fill{fr r:Id}{m0 m:Mem}{l:List Bs}{j:Nat}(h:RI fr r m0 m l j)(hr:fr<:+r):RI fr r m0 (m.put r j [.str (l.getD j [])]) l (j+1):=by
 refine⟨λi hi=>?_,λi o' hn=>?_⟩
 ·rw[Af];by_cases e:i=j
  ·subst e;rw[if_pos ⟨rfl,Qs _,by simp⟩,if_pos (by omega)];simp
  ·rw[if_neg (by simp;omega),h.row i hi];by_cases h2:i<j
   ·rw[if_pos h2,if_pos (by omega)]
   ·rw[if_neg h2,if_neg (by omega)]
 ·rw[Mem.put_other (λe=>hn (by rw[e];exact hr))];exact h.out i o' hn
def RI.start{fr:Id}{m:Mem}{l:List Bs}{k n:Nat}(hn:n=l.length):RI fr (k::fr) m (m.put (k::fr) 0 (QR n (.str []))) l 0:=by
 subst hn;refine⟨λi hi=>?_,λi o hn=>Mem.put_other (λe=>hn (by rw[e];exact Qw _ _))⟩;rw[Af,if_pos ⟨rfl,by omega,by simp;exact hi⟩,if_neg (by omega)];simp[hi]
def RI.fin{fr r:Id}{m0 m:Mem}{l:List Bs}(h:RI fr r m0 m l l.length)(hf:∀i o,fr<:+i->m0 i o=none):
  (∀(j:Nat) x,(l.map D.str)[j]?=some x->m r j=some x)∧∀i o x,m0 i o=some x->m i o=some x:=by
 refine⟨λj x hx=>?_,λi o x hx=>?_⟩
 ·have hj:j<l.length:=by have:=(QJ.1 hx).1;simpa using this
  rw[h.row j hj,if_pos hj];simp[hj]at hx;simp[hj,hx]
 ·rw[h.out i o (λhs=>by rw[hf i o hs]at hx;cases hx)];exact hx
def rowS(F:List D->Option (List Bs)):Summ where
 rd:=λ_ _=>[]
 ex:=λds _ _=>(F ds).map λl=>(.slice false [] (l.map .str),[])
def rowS_ok{S:Summs}{P:Program}{f:FuncId}{N:Nat}{dc:DC}{rs:List RV}{F:List D->Option (List Bs)}(hS:Summs.ok P S)(hf:Fn P f N dc rs)
  (hwp:∀ds l m fr,F ds=some l->(∀i o,fr<:+i->m i o=none)->ds.length<=N∧dc.wp S fr (DY rs λd m'=>∃i,d= .row i l.length∧fr<:+i∧RI fr i m m' l l.length) ⟨Br ds,m,0⟩):(rowS F).ok P f:=by
 refine opn_row hS hf (λ_ _ _ _ _=>rfl) (λds m fr r u hex hfr=>?_);simp only[rowS,Qf,Qj]at hex;obtain⟨l,hl,rfl,rfl⟩:=hex;obtain⟨h1,h2⟩:=hwp ds l m fr hl hfr;refine⟨h1,by simp,l.map .str,rfl,?_,?_⟩
 ·intro x hx;obtain⟨s,_,rfl⟩:=Q9.1 hx;exact⟨rfl,rfl⟩
 ·refine wp_mono' h2 (λe st' h=>?_);obtain⟨a,d,hd,i,hdi,hs,hR⟩:=h;exact⟨a,d,hd,i,by simpa using hdi,hs,(hR.fin hfr).1,λi o x hx=>(hR.fin hfr).2 i o x hx⟩
open Classical in
def F199:List D->Option (List Bs)
 |[.slice _ _ xs]=>if xs=Al (Bb xs)∧xs.length<=1000000 then some ((Bb xs).map (·.1))else none
 |_=>none
open Classical in
def F199_eq{nl:Bool}{t:Id}{l:List Rl}(hl:l.length<=1000000):F199 [.slice nl t (Al l)]=some (l.map (·.1)):=by
 have h:Al l=Al (Bb (Al l))∧(Al l).length<=1000000:=by rw[AR,As];exact⟨rfl,hl⟩
 show(if _ then _ else _)=_;rw[if_pos h,AR]
open Classical in
def F199_inv{ds:List D}{r:List Bs}(h:F199 ds=some r):∃nl t l,ds=[.slice nl t (Al l)]∧l.length<=1000000∧r=l.map (·.1):=by
 unfold F199 at h;split at h
 ·rename_i nl t xs;split at h
  ·rename_i hc;obtain⟨h1,h2⟩:=hc;simp only[Qb]at h;subst h;refine⟨nl,t,Bb xs,by rw[←h1],?_,rfl⟩;rw[h1,As]at h2;exact h2
  ·cases h
 ·cases h
def loop199{S:Summs}{fr:Id}{l:List Rl}{nl:Bool}{t:Id}{m0:Mem}{k:Nat}{Q:Ex->St->Prop}(hb:l.length<=1000000)
  (hexit:∀st,st.s 3= .row (k::fr) l.length->RI fr (k::fr) m0 st.m (l.map (·.1)) l.length->Q (.exit 0) st):
  ∀(f j:Nat) st g,l.length=j+f->k<st.c->st.s 3= .row (k::fr) l.length->st.s 9= .slice nl t (Al l)->st.s 10= .int .i64 (l.length:Int)->st.s 11= .int .i64 (j:Int)->RI fr (k::fr) m0 st.m (l.map (·.1)) j->A4 S fr dc199l0 Q st g:=by
 intro f;induction f with
 |zero=>
  intro j st g hf hc h3 h9 h10 h11 I;refine Ae dc199l0.eq_1 ?_;have:¬((j:Int)<l.length):=by omega
  simp only[↓go1,go2,go4,reduceIte,Qk,h10,h11,this];exact hexit _ h3 (by rw[show l.length=j by omega];exact I)
 |succ f ih=>
  intro j st g hf hc h3 h9 h10 h11 I;refine Ae dc199l0.eq_1 ?_;have hj:j<l.length:=by omega
  have hlt:((j:Int)<l.length):=by omega
  have hj0:=nJ (j:=j);have hw:=wJ (j:=j) (by omega);have hat:(Al l)[j]?=some (.agg [.str (Bp l j).1,.int .u8 (Bp l j).2]):=Dx hj;have hg:(l.map (·.1)).getD j []=(Bp l j).1:=by simp[Bp,Qe hj]
  generalize Bp l j=r at hat hg;have hne1:((st.c+1+3)::fr=k::fr)=False:=eq_false (by simp;omega);have hne2:(k::fr=(st.c+1+3)::fr)=False:=eq_false (by simp;omega);have hrow:=I.row j (by simpa using hj);rw[if_neg (by omega)]at hrow;obtain⟨st_s,st_m,st_c⟩:=st;simp only at h3 h9 h10 h11 hc hne1 hne2 hrow I;simp only[↓go1,gB0,reduceIte,Qn,Qk,h3,h9,h10,h11,hlt,hj0,hw,Qd,hat,hne2,hrow,Qs,false_and,Af,Ap,Aq,Nat.reduceLT,Qv,Qx,Q0,Zc,Zf];refine ih (j+1) _ _ (by omega) (by simp only;omega) h3 h9 h10 rfl ?_;rw[←hg];exact((I.put (by simp;omega)).put (by simp;omega)).fill (Qw _ _)
def ok199:(rowS F199).ok Qc 199:=by
 refine rowS_ok (S:=λ_=>none) AK fn199 (λds r m fr h hfr=>?_);obtain⟨nl,t,l,rfl,hl,rfl⟩:=F199_inv h;refine⟨by simp,?_⟩;have hn0:((0:Int)<=(l.length:Int)):=by omega
 have hnb:((l.length:Int)*(((16:Nat):Int)+1)<=140737488355328)=True:=eq_true (by omega);unfold dc199;simp only[↓go1,go2,go3,reduceIte,Qn,Qk,hn0,hnb,As,Qd,Int.le_refl,gB3,Qh,and_self];refine loop199 (l:=l) (nl:=nl) (t:=t) (m0:=m) (k:=3) hl (λst h1 h2=>?_) l.length 0 _ _ (by omega) (by simp only;omega) rfl rfl rfl rfl ?_
 ·simp only[↓go1,go2,reduceIte,Qn,Qk,h1,Qg];exact⟨_,rfl,Qw _ _,h2⟩
 ·exact RI.start (by simp)
def longR(s:Bs)(l:List Bs):Nat->Nat->Int->Int->Int
 |0,_,b,_=>b
 |f+1,j,b,n=>if n<((l.getD j []).length:Int)∧A7 s (l.getD j [])=true then longR s l f (j+1) j (l.getD j []).length else longR s l f (j+1) b n
def ES(s:Bs)(l:List Bs):Int:=longR s l l.length 0 (-1) (-1)
def loop198{S:Summs}{ns:Id}{s:Bs}{l:List Bs}{nl:Bool}{t:Id}{Q:Ex->St->Prop}{e:Int}(s206:S 206=some (Ac F206))(hb:l.length<=1000000)
  (hexit:∀st,st.s 5= .int .i64 e->Q (.exit 0) st):
  ∀(f j:Nat)(b n:Int) st g,l.length=j+f->longR s l f j b n=e->st.s 0= .str s->st.s 5= .int .i64 b->st.s 6= .int .i64 n->st.s 9= .slice nl t (l.map .str)->st.s 10= .int .i64 (l.length:Int)->st.s 11= .int .i64 (j:Int)->A4 S ns dc198l0 Q st g:=by
 intro f;induction f with
 |zero=>
  intro j b n st g hf he h0 h5 h6 h9 h10 h11;refine Ae dc198l0.eq_1 ?_;have:¬((j:Int)<l.length):=by omega
  simp only[↓go1,go2,go4,reduceIte,Qk,h10,h11,this];exact hexit _ (by rw[←he];exact h5)
 |succ f ih=>
  intro j b n st g hf he h0 h5 h6 h9 h10 h11;refine Ae dc198l0.eq_1 ?_;unfold longR at he;have hj:j<l.length:=by omega
  have hlt:((j:Int)<l.length):=by omega
  have hj0:=nJ (j:=j);have hw:=wJ (j:=j) (by omega);have hat:(l.map D.str)[j]?=some (.str (l.getD j [])):=by simp[hj]
  generalize l.getD j []=p at hat he;have h206:F206 [.str s,.str p]=some (.bool (A7 s p)):=rfl;obtain⟨st_s,st_m,st_c⟩:=st;simp only at h0 h5 h6 h9 h10 h11;by_cases hn:n<(p.length:Int)
  ·cases hp:A7 s p with
   |true=>
    rw[if_pos ⟨hn,hp⟩]at he;simp only[↓go1,gB2,simprocAttr,h0,h9,h10,h11,h6,hlt,hj0,hw,Qd,hat,Aa s206,h206,gB3,Qh,Qp,hn,hp];exact ih (j+1) _ _ _ _ (by omega) he h0 rfl rfl h9 h10 rfl
   |false=>
    rw[if_neg (by rw[hp];simp)]at he;simp only[↓go1,gB2,simprocAttr,h0,h9,h10,h11,h6,hlt,hj0,hw,Qd,hat,Aa s206,h206,gB3,Qh,Qp,hn,hp];exact ih (j+1) _ _ _ _ (by omega) he h0 h5 h6 h9 h10 rfl
  ·rw[if_neg (λh=>hn h.1)]at he;simp only[↓go1,gB2,simprocAttr,h9,h10,h11,h6,hlt,hj0,hw,Qd,hat,gB3,Qh,Qp,hn];exact ih (j+1) _ _ _ _ (by omega) he h0 h5 h6 h9 h10 rfl
def F198:List D->Option D
 |[.str s,.slice _ _ xs]=>(Gj xs).bind λl=>if l.length<=1000000 then some (.int .i64 (ES s l))else none
 |_=>none
def F198_eq{s:Bs}{nl:Bool}{t:Id}{l:List Bs}(hl:l.length<=1000000):F198 [.str s,.slice nl t (l.map .str)]=some (.int .i64 (ES s l)):=by
 simp only[F198,Gi,Qx];exact if_pos hl
def ok198:(Ac F198).ok Qc 198:=by
 obtain⟨S,hS,hl⟩:=A6 (Ab ok206 Ad);have s206:=hl 206 _ rfl;clear hl;refine Az (S:=S) hS fn198 (λds r h=>?_) (λds r h=>?_)
 ·unfold F198 at h;split at h
  ·simp
  ·cases h
 ·unfold F198 at h;split at h
  ·rename_i s nl t xs;rw[QE]at h;obtain⟨l,hs,h⟩:=h;obtain rfl:=Fd hs;split at h
   ·rename_i hl;simp only[Qb]at h;subst h;unfold dc198;simp only[↓go1,go2,simprocAttr,Qg];refine loop198 (s:=s) (l:=l) (nl:=nl) (t:=t) (e:=ES s l) s206 hl (λst h1=>?_) l.length 0 _ _ _ _ (by omega) rfl rfl rfl rfl rfl rfl rfl;simp only[↓go1,gB2,simprocAttr,h1]
   ·cases h
  ·cases h
def Ch(l:List Rl)(s:Bs):Int:=if ES s (l.map (·.1))<0 then 0 else(Bp l (ES s (l.map (·.1))).toNat).2
def longR_lt(s:Bs)(l:List Bs):∀(f j:Nat)(b n:Int),l.length=j+f->b<l.length->longR s l f j b n<l.length
 |0,j,b,n,hf,hb=>by simpa[longR]using hb
 |f+1,j,b,n,hf,hb=>by
  unfold longR;split
  ·exact longR_lt s l f (j+1) _ _ (by omega) (by omega)
  ·exact longR_lt s l f (j+1) _ _ (by omega) hb
def longE_lt(s:Bs)(l:List Bs):ES s l<l.length:=longR_lt s l _ _ _ _ (by omega) (by omega)
open Classical in
def F95:List D->Option D
 |[.slice _ _ xs,.str s]=>if xs=Al (Bb xs)∧xs.length<=1000000 then some (.int .u8 (Ch (Bb xs) s))else none
 |_=>none
open Classical in
def F95_eq{nl:Bool}{t:Id}{l:List Rl}{s:Bs}(hl:l.length<=1000000):F95 [.slice nl t (Al l),.str s]=some (.int .u8 (Ch l s)):=by
 have h:Al l=Al (Bb (Al l))∧(Al l).length<=1000000:=by rw[AR,As];exact⟨rfl,hl⟩
 show(if _ then _ else _)=_;rw[if_pos h,AR]
open Classical in
def F95_inv{ds:List D}{r:D}(h:F95 ds=some r):∃nl t l s,ds=[.slice nl t (Al l),.str s]∧l.length<=1000000∧r= .int .u8 (Ch l s):=by
 unfold F95 at h;split at h
 ·rename_i nl t xs s;split at h
  ·rename_i hc;obtain⟨h1,h2⟩:=hc;simp only[Qb]at h;subst h;refine⟨nl,t,Bb xs,s,by rw[←h1],?_,rfl⟩;rw[h1,As]at h2;exact h2
  ·cases h
 ·cases h
def ok95:(Ac F95).ok Qc 95:=by
 obtain⟨S,hS,hl⟩:=A6 (Ab ok199 (Ab ok198 Ad));have s199:=hl 199 _ rfl;have s198:=hl 198 _ rfl;clear hl;refine Az (S:=S) hS fn95 (λds r h=>?_) (λds r h=>?_)
 ·obtain⟨nl,t,l,s,rfl,_⟩:=F95_inv h;simp
 ·obtain⟨nl,t,l,s,rfl,hl,rfl⟩:=F95_inv h;have e199:∀m fr,(rowS F199).ex [.slice nl t (Al l)] m fr=some (.slice false [] ((l.map (·.1)).map .str),[]):=by
   intro m fr;simp only[rowS,F199_eq hl,Qz]
  have e198:F198 [.str s,.slice false [] ((l.map (·.1)).map .str)]=some (.int .i64 (ES s (l.map (·.1)))):=F198_eq (by simpa using hl);have hall:((l.map (·.1)).map D.str).all D.calm=true:=by rw[Qt];intro x hx;obtain⟨y,_,rfl⟩:=Q9.1 hx;rfl
  have hun:((l.map (·.1)).map D.str).map D.un=(l.map (·.1)).map D.str:=by rw[QI];exact QC λ_ _=>rfl
  unfold dc95 Ch;have hlt:=longE_lt s (l.map (·.1));rw[Qg]at hlt;generalize ES s (l.map (·.1))=i at e198 hlt;by_cases hi:i<0
  ·simp only[↓go1,gB2,simprocAttr,Ah s199,e199,Aa s198,e198,hi]
  ·obtain⟨j,rfl⟩:=Ql (show 0<=i by omega);have hj:j<l.length:=by omega
   have hj0:=nJ (j:=j);have hat:(Al l)[j]?=some (.agg [.str (Bp l j).1,.int .u8 (Bp l j).2]):=Dx hj;simp only[↓go1,gB2,simprocAttr,Ah s199,e199,Aa s198,e198,hi,hj0,Qd,hat,gB3,Qh,and_self,Qo,QL,Qp]
def loop220{S:Summs}{ns:Id}{s:Bs}{l:List Rl}{nl:Bool}{t:Id}{Q:Ex->St->Prop}{e:Int}(s111:S 111=some (Ac F111))(hb:l.length<=1000000)(hp0:BJ l)(hs:s.length<=1000000)
  (hexit:∀st,st.s 0= .slice nl t (Al l)->st.s 5= .int .i64 e->Q (.exit 0) st):
  ∀(f j:Nat)(b n:Int) st g,l.length=j+f->b<l.length->(b<0∧n=-1∨0<=b∧n=((Bp l b.toNat).1.length:Int))->longR s (l.map (·.1)) f j b n=e->st.s 0= .slice nl t (Al l)->st.s 1= .str s->st.s 5= .int .i64 b->st.s 6= .int .i64 (j:Int)->A4 S ns dc220l0 Q st g:=by
 intro f;induction f with
 |zero=>
  intro j b n st g hf hbl hbn he h0 h1 h5 h6;refine Ae dc220l0.eq_1 ?_;have:¬((j:Int)<l.length):=by omega
  simp only[↓go1,go2,go4,simprocAttr,h0,h6,this,As];exact hexit _ h0 (by rw[←he];exact h5)
 |succ f ih=>
  intro j b n st g hf hbl hbn he h0 h1 h5 h6;refine Ae dc220l0.eq_1 ?_;unfold longR at he;have hj:j<l.length:=by omega
  have hlt:((j:Int)<l.length):=by omega
  have hj0:=nJ (j:=j);have hw:=wJ (j:=j) (by omega);have hat:(Al l)[j]?=some (.agg [.str (Bp l j).1,.int .u8 (Bp l j).2]):=Dx hj;have hg:(l.map (·.1)).getD j []=(Bp l j).1:=by simp[Bp,Qe hj]
  have hself:(j:Int)<0∧(((Bp l j).1.length:Nat):Int)=-1∨0<=(j:Int)∧(((Bp l j).1.length:Nat):Int)=((Bp l (j:Int).toNat).1.length:Int):= .inr ⟨by omega,rfl⟩;rw[hg]at he;have hpl:=prefB_at hp0 hj;generalize (Bp l j).1=p at hat he hself hpl;have h111:F111 [.str s,.str p]=some (.bool (A7 s p)):=if_pos ⟨hs,hpl⟩;obtain⟨st_s,st_m,st_c⟩:=st;simp only at h0 h1 h5 h6;rcases hbn with ⟨hb0,rfl⟩|⟨hb0,hn⟩
  ·cases hp:A7 s p with
   |true=>
    rw[if_pos ⟨by omega,hp⟩]at he;simp only[↓go1,gB2,simprocAttr,h0,h1,h5,h6,hlt,hj0,Qd,hat,As,Aa s111,h111,Qq,gB3,Qh,Qo,Qp,hp,hb0];refine Ao.intro (Aj rfl) ?_;simp only[↓go1,go2,go3,simprocAttr,h6,hw];exact ih (j+1) _ _ _ _ (by omega) (by omega) hself he h0 h1 rfl rfl
   |false=>
    rw[if_neg (by rw[hp];simp)]at he;simp only[↓go1,gB2,simprocAttr,h0,h1,h6,hlt,hj0,Qd,hat,As,Aa s111,h111,Qq,gB3,Qh,Qo,Qp,hp];refine Ao.intro (Aj rfl) ?_;simp only[↓go1,go2,go3,simprocAttr,h6,hw];exact ih (j+1) _ _ _ _ (by omega) hbl (.inl ⟨hb0,rfl⟩) he h0 h1 h5 rfl
  ·obtain⟨i,rfl⟩:=Ql hb0;rw[Qd]at hn;have hi:i<l.length:=by omega
   have hnb:¬((i:Int)<0):=by omega
   have hati:(Al l)[i]?=some (.agg [.str (Bp l i).1,.int .u8 (Bp l i).2]):=Dx hi;subst hn;have hkeep:(i:Int)<0∧(((Bp l i).1.length:Nat):Int)=-1∨0<=(i:Int)∧(((Bp l i).1.length:Nat):Int)=((Bp l (i:Int).toNat).1.length:Int):= .inr ⟨by omega,rfl⟩;generalize (Bp l i).1=pi at hati he hkeep;cases hp:A7 s p with
   |true=>
    by_cases hn:((pi.length:Int)<(p.length:Int))
    ·rw[if_pos ⟨hn,hp⟩]at he;simp only[↓go1,gB2,simprocAttr,h0,h1,h5,h6,hlt,hj0,Qd,hat,As,Aa s111,h111,Qq,gB3,Qh,Qo,Qp,hp,hnb,hati,hn,Qq,Int.natCast_nonneg];refine Ao.intro (Aj rfl) ?_;simp only[↓go1,go2,go3,simprocAttr,h6,hw];exact ih (j+1) _ _ _ _ (by omega) (by omega) hself he h0 h1 rfl rfl
    ·rw[if_neg (λh=>hn h.1)]at he;simp only[↓go1,gB2,simprocAttr,h0,h1,h5,h6,hlt,hj0,Qd,hat,As,Aa s111,h111,Qq,gB3,Qh,Qo,Qp,hp,hnb,hati,hn,Int.natCast_nonneg];refine Ao.intro (Aj rfl) ?_;simp only[↓go1,go2,go3,simprocAttr,h6,hw];exact ih (j+1) _ _ _ _ (by omega) (by omega) hkeep he h0 h1 h5 rfl
   |false=>
    rw[if_neg (by rw[hp];simp)]at he;simp only[↓go1,gB2,simprocAttr,h0,h1,h6,hlt,hj0,Qd,hat,As,Aa s111,h111,Qq,gB3,Qh,Qo,Qp,hp];refine Ao.intro (Aj rfl) ?_;simp only[↓go1,go2,go3,simprocAttr,h6,hw];exact ih (j+1) _ _ _ _ (by omega) (by omega) hkeep he h0 h1 h5 rfl
open Classical in
def F220:List D->Option D
 |[.slice _ _ xs,.str s]=>if xs=Al (Bb xs)∧xs.length<=1000000∧BJ (Bb xs)∧s.length<=1000000 then some (.int .u8 (Ch (Bb xs) s))else none
 |_=>none
open Classical in
def F220_eq{nl:Bool}{t:Id}{l:List Rl}{s:Bs}(hl:l.length<=1000000)(hp:BJ l)(hs:s.length<=1000000):F220 [.slice nl t (Al l),.str s]=some (.int .u8 (Ch l s)):=by
 have h:Al l=Al (Bb (Al l))∧(Al l).length<=1000000∧BJ (Bb (Al l))∧s.length<=1000000:=by rw[AR,As];exact⟨rfl,hl,hp,hs⟩
 show(if _ then _ else _)=_;rw[if_pos h,AR]
open Classical in
def F220_inv{ds:List D}{r:D}(h:F220 ds=some r):∃nl t l s,ds=[.slice nl t (Al l),.str s]∧l.length<=1000000∧BJ l∧s.length<=1000000∧r= .int .u8 (Ch l s):=by
 unfold F220 at h;split at h
 ·rename_i nl t xs s;split at h
  ·rename_i hc;obtain⟨h1,h2,h3⟩:=hc;simp only[Qb]at h;subst h;refine⟨nl,t,Bb xs,s,by rw[←h1],?_,h3.1,h3.2,rfl⟩;rw[h1,As]at h2;exact h2
  ·cases h
 ·cases h
def ok220:(Ac F220).ok Qc 220:=by
 obtain⟨S,hS,hl⟩:=A6 (Ab ok111 Ad);have s111:=hl 111 _ rfl;clear hl;refine Az (S:=S) hS fn220 (λds r h=>?_) (λds r h=>?_)
 ·obtain⟨nl,t,l,s,rfl,_⟩:=F220_inv h;simp
 ·obtain⟨nl,t,l,s,rfl,hl,hp,hs,rfl⟩:=F220_inv h;unfold dc220 Ch;have hlt:=longE_lt s (l.map (·.1));rw[Qg]at hlt;simp only[↓go1,go2,Qk];refine loop220 (s:=s) (l:=l) (nl:=nl) (t:=t) (e:=ES s (l.map (·.1))) s111 hl hp hs (λst h0 h1=>?_) l.length 0 (-1) (-1) _ _ (by omega) (by omega) (.inl ⟨by omega,rfl⟩) (by rw[ES,Qg]) rfl rfl rfl rfl;generalize ES s (l.map (·.1))=i at h1 hlt;by_cases hi:i<0
  ·simp only[↓go1,gB2,simprocAttr,h1,hi]
  ·obtain⟨j,rfl⟩:=Ql (show 0<=i by omega);have hj:j<l.length:=by omega
   have hj0:=nJ (j:=j);have hat:(Al l)[j]?=some (.agg [.str (Bp l j).1,.int .u8 (Bp l j).2]):=Dx hj;simp only[↓go1,gB2,simprocAttr,h0,h1,hi,hj0,Qd,hat,gB3,Qh,and_self,Qo,QL,Qp]
def allowsP(l:List Rl)(s:Bs)(want:Int):Bool:=hasB (Ch l s).toNat want.toNat
def DW(l:List Rl):Prop:=∀r∈l,0<=r.2∧r.2<256
open Classical in
def F215:List D->Option D
 |[.slice _ _ xs,.str s,.int .u8 k]=>if xs=Al (Bb xs)∧xs.length<=1000000∧DW (Bb xs)∧BJ (Bb xs)∧s.length<=1000000∧0<=k∧k<256 then some (.bool (allowsP (Bb xs) s k))else none
 |_=>none
open Classical in
def F215_eq{nl:Bool}{t:Id}{l:List Rl}{s:Bs}{k:Int}(hl:l.length<=1000000)(hc:DW l)(hp:BJ l)(hs:s.length<=1000000)(h0:0<=k)(h1:k<256):F215 [.slice nl t (Al l),.str s,.int .u8 k]=some (.bool (allowsP l s k)):=by
 have h:Al l=Al (Bb (Al l))∧(Al l).length<=1000000∧DW (Bb (Al l))∧BJ (Bb (Al l))∧s.length<=1000000∧0<=k∧k<256:=by rw[AR,As];exact⟨rfl,hl,hc,hp,hs,h0,h1⟩
 show(if _ then _ else _)=_;rw[if_pos h,AR]
open Classical in
def F215_inv{ds:List D}{r:D}(h:F215 ds=some r):∃nl t l s k,ds=[.slice nl t (Al l),.str s,.int .u8 k]∧l.length<=1000000∧DW l∧BJ l∧s.length<=1000000∧0<=k∧k<256∧r= .bool (allowsP l s k):=by
 unfold F215 at h;split at h
 ·rename_i nl t xs s k;split at h
  ·rename_i hc;obtain⟨h1,h2,h3,hp,hs,h4,h5⟩:=hc;simp only[Qb]at h;subst h;refine⟨nl,t,Bb xs,s,k,by rw[←h1],?_,h3,hp,hs,h4,h5,rfl⟩;rw[h1,As]at h2;exact h2
  ·cases h
 ·cases h
def capsP_b{l:List Rl}{s:Bs}(hc:DW l):0<=Ch l s∧Ch l s<256:=by
 unfold Ch;have hlt:=longE_lt s (l.map (·.1));rw[Qg]at hlt;split
 ·omega
 ·rename_i h;have hj:(ES s (l.map (·.1))).toNat<l.length:=by omega
  have:Bp l (ES s (l.map (·.1))).toNat=l[(ES s (l.map (·.1))).toNat]:=by simp[Bp,Qe hj]
  rw[this];exact hc _ (QD hj)
def F219_eq{a c:Int}(h1:0<=a)(h2:a<256)(h3:0<=c)(h4:c<256):F219 [.int .u8 a,.int .u8 c]=some (.bool (hasB a.toNat c.toNat)):=if_pos ⟨h1,h2,h3,h4⟩
def ok215:(Ac F215).ok Qc 215:=by
 obtain⟨S,hS,hl⟩:=A6 (Ab ok95 Ad);have s95:=hl 95 _ rfl;clear hl;refine Az (S:=S) hS fn215 (λds r h=>?_) (λds r h=>?_)
 ·obtain⟨nl,t,l,s,k,rfl,_⟩:=F215_inv h;simp
 ·obtain⟨nl,t,l,s,k,rfl,hl,hc,hp,hs,h0,h1,rfl⟩:=F215_inv h;have e1:=F95_eq (nl:=nl) (t:=[]) (s:=s) hl;have hb:=capsP_b (s:=s) hc;have hall:(Al l).all D.calm=true:=by rw[Qt];intro x hx;obtain⟨y,_,rfl⟩:=Q9.1 hx;rfl
  have hun:(Al l).map D.un=Al l:=by rw[Al,QI];exact QC λ_ _=>rfl
  unfold dc215 allowsP;generalize Ch l s=a at e1 hb;obtain⟨a,rfl⟩:=Ql hb.1;obtain⟨k,rfl⟩:=Ql h0;have hbit:=andNot_nat (a:=a) (c:=k) (by omega) (by omega);have hz:decide (((QU k (255-a):Nat):Int)=0)=hasB a k:=by
   unfold hasB;generalize QU k (255-a)=x;cases x with
   |zero=>rfl
   |succ x=>simp[Nat.beq];omega
  simp only[↓go1,gB2,simprocAttr,Aa s95,e1,v_andNot,hbit,hz,Qd]
end Go.Vd
end
