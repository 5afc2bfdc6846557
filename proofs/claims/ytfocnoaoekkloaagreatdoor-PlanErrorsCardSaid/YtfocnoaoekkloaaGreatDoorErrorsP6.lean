/-
  A part of the proof: the layers over the model. Nothing in it is assumed.
-/
import Derived.Test.YtfocnoaoekkloaaGreatDoorErrorsP5
import Derived.Laws.CopyOwn
import Derived.Laws.MakeOwn
import Derived.WalkKit
import Derived.Test.YtfocnoaoekkloaaGreatDoorProg
import Derived.Shelf.Sort.Plain
import Derived.Shelf.Slices.CompactS
import Derived.Deep.LoopGhost
import Derived.Sort.OwnSorted
import Derived.Sort.Grow
import Derived.Lib.OwnBridge
import Derived.Shelf.Slices.In.SortNone
import Derived.Defers
import Derived.Recover
import Derived.WalkLawsBesides
import Derived.Laws.Tables
import Derived.Laws.CopyRow
import Derived.RegionTactic
import Derived.ChangeAlike
import Derived.Laws.EntriesVeiled

set_option linter.unusedSimpArgs false
set_option linter.unusedVariables false
set_option linter.defProp false
set_option maxHeartbeats 4000000
set_option maxRecDepth 100000
open Go.Proofs.Tryz renaming prog→Qa
open Nat renaming le_of_ble_eq_true→Qb,le_refl→Qe,zero_le→Qg,reduceEqDiff→Qj,reduceAdd→Qq,le_trans→QF,reduceLeDiff→QT,zero_add→Q_,reduceLT→Q2,reduceSub→Q8,lt_or_ge→Zj
open Option.some renaming injEq→Qc
open List renaming getElem?_eq_getElem→Qd,length_append→Qf,mem_cons→Qh,forall_mem_cons→Qi,length_map→Qk,getElem?_cons_zero→Ql,not_mem_nil→Qm,mem_map→Qn,mem_cons_self→Qp,nil_append→Qr,getElem?_cons_succ→Qs,length_take→Qv,length_mergeSort→Qw,mem_cons_of_mem→Qx,mem_singleton→Qy,length_cons→QB,getElem_mem→QC,mem_of_mem_take→QD,mem_of_getElem?→QE,getD_eq_getElem?_getD→QG,mem_append→QH,getElem?_eq_some_iff→QI,eq_nil_of_length_eq_zero→QJ,append_assoc→QK,length_drop→QM,nodup_iff_pairwise_ne→QN,take_succ_eq_append_getElem→QO,cons_append→QQ,getD→QR,take_of_length_le→QU,getElem?_map→QX,any_eq_false→QY,mem_of_mem_drop→QZ,take_length→Q1,getElem_of_mem→Q5,length_filterMap_le→Q7,drop_zero→Q9,drop_eq_nil_of_le→Zb,take_append_drop→Zf,all_eq_true→Zg,append_nil→Zi,map_cons→Zl,isEmpty_iff→Zm,mem_flatMap→Zn,mem_singleton_self→Zo,map_nil→Zp,mem_filter→Zq,length_singleton→Zr,take_zero→Zs,replicate→Zt,take_succ_cons→Zv,filterMap_cons→Zw,map_congr_left→Zx,drop_succ_cons→Zy
open Int renaming toNat_natCast→Qo,toNat_of_nonneg→QP,reduceLE→Q0,lt_irrefl→Q6,reduceEq→Zc,reduceNe→Zd,reduceLT→Ze,toNat_zero→Zk
open Option renaming map_eq_some_iff→Qt,getD_some→QS,isSome_some→QV
open Bool renaming and_eq_true→Qu,or_eq_false_iff→Zh
open Array renaming getElem?_eq_some_iff→Qz,size_push→QA,all_eq_true_iff_forall_mem→Za,getElem?_push→Zu,ext_getElem?→Zz
open Prod.mk renaming injEq→QL
open List.cons renaming injEq→QW
open Go.Proofs.Tryz
noncomputable section
namespace Go.Vd
open Go.Proofs Go.RowKit
def F326:List D->Option (List D×List Nat)
 |[.int .i64 s,.int .u64 n]=>if 1<=s∧s<=8∧0<=n then some (Au (beB s.toNat n),[13*s.toNat])else none
 |_=>none
set_option maxHeartbeats 1000000 in
def loop326{S:Summs}{fr:Id}{m0:Mem}{nl0:Bool}{t0:Id}{emp:Bool}{n:Int}{sz:Nat}{Q:Ex->St->Prop}(hsz:sz<=8)(hn0:0<=n)(hfr:∀i o,fr<:+i->m0 i o=none)(hg0:BO m0 5 nl0 t0 emp=true):
  ∀(k:Nat)(st:St)(nl:Bool)(t:Id)(xs:List D) g,k<=sz->xs.length+k<=200000000->(nl=true->xs=[])->st.c=5+13*(sz-k)->Gs 5 fr m0 nl0 t0 st.m st.c nl t->
   st.s 7= .int .i64 (8*(k:Int)-8)->st.s 0= .slice nl t xs->st.s 2= .int .u64 n->
   (∀st' nl' t',st'.s 0= .slice nl' t' (xs++Au (beB k n))->(k=0->nl'=nl∧t'=t∧st'.m=st.m∧st.c<=st'.c)->(0<k->nl'=false∧t'=[13*sz]++fr∧Gd 5 fr m0 nl0 t0 st'.m st'.c t')->Q (.exit 0) st')->A4 S fr dc326l0 Q st g:=by
 intro k;induction k with
 |zero=>
  intro st nl t xs g _ _ _ _ hG h7 h0 h2 hexit;refine Ae dc326l0.eq_1 ?_;have hn:((0:Int)<=8*((0:Nat):Int)-8)=False:=eq_false (by decide);simp only[↓go1,go2,go4,simprocAttr,h7,hn];exact hexit _ nl t (by simp only[↓go1,reduceIte,Qj,h0,beB,Au,Zp,Zi]) (λ_=>⟨rfl,rfl,rfl,by simp only;omega⟩) (λh=>absurd h (by omega))
 |succ k ih=>
  intro st nl t xs g hk hlen hnil hc hG h7 h0 h2 hexit;refine Ae dc326l0.eq_1 ?_;have hn:((0:Int)<=8*((k+1:Nat):Int)-8)=True:=eq_true (by omega);have hb:((0:Int)<=8*((k+1:Nat):Int)-8):=by omega
  have hmin:min (8*((k+1:Nat):Int)-8).toNat IntKind.u64.bits=8*k:=by
   have:IntKind.u64.bits=64:=rfl;omega
  have hw:IntKind.i64.wrap (8*((k+1:Nat):Int)-8-8)=8*(k:Int)-8:=by rw[IntWalk.i64_in _ ⟨by omega,by omega⟩];omega
  simp only[↓go1,gB2,simprocAttr,gB3,h7,h0,h2,hn,hmin,u8_wrap,and_false];refine Ao.intro ⟨by omega,rfl,Gs.grow (hG.put (l:=[]) (k:=st.c+2+5) (by omega)) hfr hg0⟩ ?_;rw[BH hnil];simp only[↓go1,gB2,simprocAttr,h7,hw];have hd:Gd 5 fr m0 nl0 t0 (Upd.app (st.m.put ((st.c+2+5)::fr) 0 [D.tok 6]) (Bi 5 ((st.c+2+6)::fr) (.slice nl t xs))) (st.c+2+8+3) ((st.c+2+6)::fr):=
   Gs.app (l:=[]) (hG.put (l:=[]) (k:=st.c+2+5) (by omega)) (by omega) (by omega)
  refine ih _ false ((st.c+2+6)::fr) (xs++[.int .u8 ((((n.fdiv (2 ^ (8*k))) % 256).toNat:Nat):Int)]) _ (by omega) (by simp;omega) (by simp) (by simp only;omega) hd.gs rfl rfl h2 (λst' nl' t' e1 e2 e3=>?_);refine hexit st' nl' t' ?_ (λh=>absurd h (by omega)) (λ_=>?_)
  ·rw[e1,QK];simp only[beB,Au,Zl];rw[D6 (by omega)];rfl
  ·by_cases hk0:k=0
   ·obtain⟨a,b,c,d⟩:=e2 hk0;refine⟨a,?_,?_⟩
    ·rw[b];simp only[QQ,Qr,QW,and_true];omega
    ·rw[b,c];exact hd.more d
   ·exact e3 (by omega)
def ok326:(gQ 5 F326).ok Qa 326:=by
 refine Fi (S:=λ_=>none) AK fn326 gQ_loc (λds m fr d u h hfr=>?_);obtain⟨nl,t,xs,rest,ys,l,rfl,hg,hx,hF,rfl,rfl⟩:=gQ_inv h;unfold F326 at hF;split at hF
 ·rename_i s n;split at hF
  ·rename_i hc;obtain⟨hc1,hc2,hc3⟩:=hc;simp only[Qc,QL]at hF;obtain⟨rfl,rfl⟩:=hF;refine⟨by simp,?_⟩;clear h;have hs:((s.toNat:Nat):Int)=s:=QP (by omega);have w1:IntKind.i64.wrap (s-1)=s-1:=IntWalk.i64_in _ ⟨by omega,by omega⟩;have w2:IntKind.i64.wrap (8*(s-1))=8*(s.toNat:Int)-8:=by rw[IntWalk.i64_in _ ⟨by omega,by omega⟩];omega
   unfold dc326;simp only[↓go1,go2,simprocAttr,w1,w2];refine loop326 (sz:=s.toNat) (by omega) hc3 hfr hg s.toNat _ nl t xs _ (by omega) (by omega) (λh=>?_) (by simp only;omega) Gs.start rfl rfl rfl (λst nl' t' e1 _ e3=>?_)
   ·subst h;unfold BO at hg;rw[if_pos rfl,Zm]at hg;exact hg
   ·obtain⟨rfl,rfl,hd⟩:=e3 (by omega);simp only[↓go1,go2,go4,simprocAttr,e1];exact hd.fin hfr hg
  ·cases hF
 ·cases hF
def F231:List D->Option (List D×List Nat)
 |[.str s]=>if s.length<=65535 then some (Au (beB 2 s.length++s),[17])else none
 |_=>none
set_option maxHeartbeats 1000000 in
def ok231(h327:grownQ.ok Qa 327):(cQ 5 rowW F231).ok Qa 231:=by
 have hS:Summs.ok Qa (AF [(327,grownQ),(326,gQ 5 F326)]):=Ab h327 (Ab (ok326) Ad);have s327:AF [(327,grownQ),(326,gQ 5 F326)] 327=some grownQ:=rfl;have s326:AF [(327,grownQ),(326,gQ 5 F326)] 326=some (gQ 5 F326):=rfl;generalize AF [(327,grownQ),(326,gQ 5 F326)]=S at hS s327 s326;refine Fi (S:=S) hS fn231 (λds m m' fr _=>rfl) (λds m fr d u h hfr=>?_);obtain⟨nl,t,xs,rest,ys,l,rfl,ha,hx,hF,rfl,rfl⟩:=cQ_inv h;unfold F231 at hF;split at hF
 ·rename_i s;split at hF
  ·rename_i hc;simp only[Qc,QL]at hF;obtain⟨rfl,rfl⟩:=hF;refine⟨by simp,?_⟩;clear h;have g1:((65535:Int)<(s.length:Int))=False:=eq_false (by omega);have w1:IntKind.i64.wrap (2+(s.length:Int))=2+(s.length:Int):=IntWalk.i64_in _ ⟨by omega,by omega⟩;have w2:IntKind.u64.wrap (s.length:Int)=(s.length:Int):=u64_small (by omega) (by omega);have f326:F326 [.int .i64 2,.int .u64 (s.length:Int)]=some (Au (beB 2 s.length),[26]):=by
    show(if(1:Int)<=2∧(2:Int)<=8∧0<=(s.length:Int)then some (Au (beB (2:Int).toNat (s.length:Int)),[13*(2:Int).toNat])else none)=_;rw[if_pos ⟨by omega,by omega,by omega⟩];rfl
   have g327:∀m fr,grownQ.ex [.slice nl t xs,.int .i64 (2+(s.length:Int))] m fr=some (.slice false (0::fr) xs,[(0::fr,0,[.tok 6])]):=λm fr=>grown_ex (by omega) ha (by omega)
   unfold dc231;simp only[↓go1,go2,go4,simprocAttr,Ah s327,Ah s326,g327,g1,w1,w2];have hd:Gd 5 fr m true [] (m.put ([0]++9::fr) 0 [.tok 6]) 10 ([0]++9::fr):=
    ⟨⟨[0],9,rfl,by omega⟩,by rw[Bf,if_pos ⟨rfl,rfl⟩],λi o hi=>out_put i o hi⟩
   refine got_g (.inr ⟨hd.tok,by simp⟩) (by simp) hx f326 ?_;have hd2:Gd 5 fr m true [] (Upd.app (m.put (0::9::fr) 0 [.tok 6]) (Bi 5 ([26]++13::fr) (.slice false (0::9::fr) xs))) 14 ([26]++13::fr):=
    Gs.app (l:=[26]) (k:=13) hd.gs (by omega) (by omega)
   simp only[↓go1,go2,simprocAttr,false_and,Bu];refine Ao.intro ⟨by simp only[Qf,Bu,GC];omega,?_,.inr ⟨hd2.tok,by simp⟩⟩ ?_
   ·cases s<;>rfl
   simp only[↓go1,go2,simprocAttr];refine⟨by rw[CK,QK];rfl,?_⟩;exact(Gs.app (c':=18) (l:=[]) (k:=17) hd2.gs (by omega) (by omega)).finc hfr
  ·cases hF
 ·cases hF
def loop342a{S:Summs}{fr:Id}{n:Int}(h:0<=n)(h':n<18446744073709551616){i:Nat}(hi:i<=8){X Y:D}{M:Mem}{cs:Nat}{Q:Ex->St->Prop}
  (hexit:∀st,st.s 9= .int .u64 (n.fdiv (2 ^ (8*i)))->st.s 8= .int .i64 (i:Int)->st.s 7=X->st.s 2=Y->st.m=M->st.c=cs+9*i+3->Q (.exit 2) st):
  ∀(r j:Nat) st g,r=i-j->j<=i->st.s 10= .int .i64 (j:Int)->st.s 9= .int .u64 (n.fdiv (2 ^ (8*j)))->st.s 8= .int .i64 (i:Int)->st.s 7=X->st.s 2=Y->st.m=M->st.c=cs+9*j->A4 S fr dc342l0 Q st g:=by
 intro r;induction r with
 |zero=>
  intro j st g hr hj h10 h9 h8 h7 h2 hm hc;refine Ae dc342l0.eq_1 ?_;have hlt:((j:Int)<(i:Int))=False:=eq_false (by omega);obtain rfl:j=i:=by omega
  simp only[↓go1,go2,go4,simprocAttr,h10,h8,hlt];exact hexit _ h9 h8 h7 h2 hm (by simp only;omega)
 |succ r ih=>
  intro j st g hr hj h10 h9 h8 h7 h2 hm hc;refine Ae dc342l0.eq_1 ?_;have hlt:((j:Int)<(i:Int))=True:=eq_true (by omega);have hw:IntKind.i64.wrap ((j:Int)+1)=((j+1:Nat):Int):=by rw[IntWalk.i64_in _ ⟨by omega,by omega⟩];omega
  have h256:((256:Int)=0)=False:=eq_false (by decide);simp only[↓go1,go2,go4,simprocAttr,h10,h9,h8,hlt,hw,byte_step h h',ne_eq,h256];exact ih (j+1) _ _ (by omega) (by omega) rfl rfl h8 h7 h2 hm (by simp only;omega)
set_option maxHeartbeats 1000000 in
def loop342b{S:Summs}{fr:Id}{m0:Mem}{n:Int}(h:0<=n)(h':n<18446744073709551616){T:Nat}{Q:Ex->St->Prop}:
  ∀(k:Nat) st (t:Id) (xs:List D) g,k<=8->xs.length+k<=200000000->st.c+roundW k=T->st.s 8= .int .i64 ((k:Int)-1)->st.s 7= .slice false t xs->st.s 2= .int .u64 n->Gd 5 fr m0 true [] st.m st.c t->
   (∀st' t',st'.s 7= .slice false t' (xs++Au (beB k n))->(k=0->t'=t∧st'.m=st.m∧st.c<=st'.c)->(0<k->t'=[T-5]++fr∧Gd 5 fr m0 true [] st'.m st'.c t')->Q (.exit 0) st')->A4 S fr dc342l1 Q st g:=by
 intro k;induction k with
 |zero=>
  intro st t xs g _ _ hT h8 h7 h2 hG hexit;refine Ae dc342l1.eq_1 ?_;have hn:((0:Int)<=((0:Nat):Int)-1)=False:=eq_false (by decide);simp only[↓go1,go2,go4,simprocAttr,h8,hn];exact hexit _ t (by simp only[↓go1,reduceIte,Qj,h7,beB,Au,Zp,Zi]) (λ_=>⟨rfl,rfl,by simp only;omega⟩) (λh=>absurd h (by omega))
 |succ k ih=>
  intro st t xs g hk hlen hT h8 h7 h2 hG hexit;simp only[roundW]at hT;refine Ae dc342l1.eq_1 ?_;have hw:IntKind.i64.wrap ((k:Int)-1)=(k:Int)-1:=IntWalk.i64_in _ ⟨by omega,by omega⟩;have h8':st.s 8= .int .i64 (k:Int):=by rw[h8];congr 1;omega
  have hn':((0:Int)<=(k:Int))=True:=eq_true (by omega);have h256:((256:Int)=0)=False:=eq_false (by decide);simp only[↓go1,go2,go4,simprocAttr,h8',hn',h2];refine loop342a h h' (i:=k) (by omega) (X:= .slice false t xs) (Y:= .int .u64 n) (M:=st.m) (cs:=st.c+5) (λst' a9 a8 a7 a2 am ac=>?_) k 0 _ _ rfl (by omega) rfl ?_ h8' h7 h2 rfl (by first|omega|rfl|(simp only;done))
  ·have hd0:Gd 5 fr m0 true [] (st.m.put ((st'.c+4)::fr) 0 [.tok 6]) st.c t:=hG.put (l:=[]) (by omega);have hne:t≠[]:=by
    obtain⟨a,b,e,_⟩:=hG.name;rw[e];simp
   simp only[↓go1,gB2,simprocAttr,gB3,Q_,and_self,a9,a8,a7,ne_eq,h256,u8_wrap,byte_last h];rw[am];refine Ao.intro ⟨by omega,rfl,.inr ⟨hd0.tok,hne⟩⟩ ?_;simp only[↓go1,gB2,simprocAttr,a8,hw];have hd:Gd 5 fr m0 true [] (Upd.app (st.m.put ((st'.c+4)::fr) 0 [.tok 6]) (Bi 5 ((st'.c+5)::fr) (.slice false t xs))) (st'.c+7+3) ((st'.c+5)::fr):=
    Gs.app (l:=[]) hd0.gs (by omega) (by omega)
   refine ih _ ((st'.c+5)::fr) (xs++[.int .u8 ((((n.fdiv (2 ^ (8*k))) % 256).toNat:Nat):Int)]) _ (by omega) (by simp;omega) (by simp only;omega) rfl rfl a2 hd (λst'' t'' e e2 e3=>?_);refine hexit st'' t'' ?_ (λh=>absurd h (by omega)) (λ_=>?_)
   ·rw[e,QK];simp only[beB,Au,Zl];rw[D6 (by omega)];rfl
   ·by_cases hk0:k=0
    ·obtain⟨b,c,d⟩:=e2 hk0;subst hk0;simp only[roundW]at hT;refine⟨?_,?_⟩
     ·rw[b];simp only[QQ,Qr,QW,and_true];omega
     ·rw[b,c];exact hd.more d
    ·exact e3 (by omega)
  ·simp only[↓go1,reduceIte,Qj,Nat.mul_zero,Int.pow_zero];rw[show n.fdiv 1=n from Int.fdiv_one n]
def F342:List D->Option (List D×List Nat)
 |[.int .i64 s,.int .u64 n]=>if 1<=s∧s<=8∧0<=n∧n<18446744073709551616 then some (Au (beB s.toNat n),[9+roundW s.toNat])else none
 |_=>none
set_option maxHeartbeats 1000000 in
def ok342:(cQ 5 id F342).ok Qa 342:=by
 refine Fi (S:=λ_=>none) AK fn342 (λds m m' fr _=>rfl) (λds m fr d u h hfr=>?_);obtain⟨nl,t,xs,rest,ys,l,rfl,ha,hx,hF,rfl,rfl⟩:=cQ_inv h;unfold F342 at hF;split at hF
 ·rename_i s n;split at hF
  ·rename_i hc;obtain⟨hs1,hs2,hn1,hn2⟩:=hc;simp only[Qc,QL]at hF;obtain⟨rfl,rfl⟩:=hF;refine⟨by simp,?_⟩;clear h;have hs:((s.toNat:Nat):Int)=s:=QP (by omega);have w1:IntKind.i64.wrap (s-1)=((s.toNat:Nat):Int)-1:=by rw[IntWalk.i64_in _ ⟨by omega,by omega⟩];omega
   have g1:(s<(1:Int))=False:=eq_false (by omega);have g2:((8:Int)<s)=False:=eq_false (by omega);have hh:D.headSz xs 1=1:=by
    cases xs with
    |nil=>rfl
    |cons a b=>
     simp only[List.all_cons,Qu]at ha;cases a<;>simp[Fl]at ha;rfl
   unfold dc342;simp only[↓go1,go2,go4,simprocAttr,List.length_nil,Q_,false_and];refine Ao.intro ⟨by omega,hh,.inr ⟨by simp[Bf],by simp⟩⟩ ?_;simp only[↓go1,go2,go4,simprocAttr,g1,g2,w1];have hd:Gd 5 fr m true [] (Upd.app (m.put (1::fr) 0 [.tok 6]) (Bi 5 (3::fr) (.slice false (1::fr) []))) 14 (3::fr):=by
    have hd0:Gd 5 fr m true [] (m.put (1::fr) 0 [.tok 6]) 2 (1::fr):=⟨⟨[],1,rfl,by omega⟩,by simp[Bf],λi o hi=>out_put (l:=[]) i o hi⟩;exact Gs.app (l:=[]) hd0.gs (by omega) (by omega)
   refine loop342b hn1 hn2 (T:=14+roundW s.toNat) s.toNat _ (3::fr) xs _ (by omega) (by omega) rfl rfl (by simp only[↓go1,go2,go4,reduceIte,Qj,Qr]) rfl hd (λst' t' e e2 e3=>?_);obtain⟨rfl,hG⟩:=e3 (by omega);have ht:14+roundW s.toNat-5=9+roundW s.toNat:=by omega
   rw[ht]at e hG;simp only[↓go1,go2,simprocAttr,e];exact⟨rfl,hG.finc hfr⟩
  ·cases hF
 ·cases hF
def F254:List D->Option (List D×List Nat)
 |[.str s]=>if s.length<=65535 then some (Au (beB 2 s.length++s),[11])else none
 |_=>none
def ok254:(cQ 5 rowW F254).ok Qa 254:=by
 obtain⟨S,hS,hl⟩:=A6 (Ab ok342 Ad);have s342:=hl 342 _ rfl;clear hl;refine Fi (S:=S) hS fn254 (λds m m' fr _=>rfl) (λds m fr d u h hfr=>?_);obtain⟨nl,t,xs,rest,ys,l,rfl,ha,hx,hF,rfl,rfl⟩:=cQ_inv h;unfold F254 at hF;split at hF
 ·rename_i s;split at hF
  ·rename_i hc;simp only[Qc,QL]at hF;obtain⟨rfl,rfl⟩:=hF;refine⟨by simp,?_⟩;clear h;have g1:((65535:Int)<(s.length:Int))=False:=eq_false (by omega);have w2:IntKind.u64.wrap (s.length:Int)=(s.length:Int):=u64_small (by omega) (by omega);have f342:F342 [.int .i64 2,.int .u64 (s.length:Int)]=some (Au (beB 2 s.length),[54]):=by
    simp only[F342];rw[if_pos ⟨by omega,by omega,by omega,by omega⟩];rfl
   unfold dc254;simp only[↓go1,go2,go4,simprocAttr,Ah s342,g1,w2];refine got_c ha hx f342 ?_;simp only[↓go1,go2,simprocAttr,false_and,id,Bu];have hd:Gd 5 fr m true [] (m.put ([54]++9::fr) 0 [.tok 6]) 10 ([54]++9::fr):=
    ⟨⟨[54],9,rfl,by omega⟩,by rw[Bf,if_pos ⟨rfl,rfl⟩],λi o hi=>out_put i o hi⟩
   refine Ao.intro ⟨by simp only[Qf,Bu,GC];omega,?_,.inr ⟨hd.tok,by simp⟩⟩ ?_
   ·cases s<;>rfl
   simp only[↓go1,go2,simprocAttr];refine⟨by rw[CK,QK];rfl,?_⟩;exact(Gs.app (c':=12) (l:=[]) (k:=11) hd.gs (by omega) (by omega)).finc hfr
  ·cases hF
 ·cases hF
set_option maxRecDepth 20000 in
def walk327(w:World)(sp:Option Addr)(n c k:Nat)(cs:List Value)(hl:cs.length=n)(h1:∀v∈cs,v.oneCell'=true)(hk:n+k<=140737488355328)
  (hsrc:0<n->∃ad,sp=some ad∧∀(j:Nat) v,cs[j]?=some v->w.cell? (ad.add j)=some v):
  Calls Qa 327 #[.slice sp n c,.int .i64 (k:Int)] w λe w'=>e= .returned (.slice (some ⟨w.heap.size,0,none⟩) n (n+k))∧w'=(w.alloc (.cells (madeCells #[.int .u8 0] (n+k)) 5)).setRow w.heap.size (cs++(madeCells #[.int .u8 0] (n+k)).toList.drop n).toArray:=by
 have hw:IntKind.i64.wrap ((n:Int)+(k:Int))=(n:Int)+(k:Int):=IntWalk.i64_in _ ⟨by omega,by omega⟩;have hmk:∀u:World,(Instr.makeSlice 264 (.int .i64 (n:Int)) (.int .i64 ((n:Int)+(k:Int)))).run Qa u= .ok (.slice (some ⟨u.heap.size,0,none⟩) n (n+k)) (u.alloc (.cells (madeCells #[.int .u8 0] (n+k)) 5)):=λu=>by
  have e1:((n:Int)+(k:Int)).toNat=n+k:=by omega
  have:=run_make (P:=Qa) u 264 5 Tryz.t5 (.int .u8 0) underlying264 (by kernel_rfl) (by kernel_rfl) .i64 .i64 (n:Int) ((n:Int)+(k:Int)) (by omega) (by omega) (by show((1:Nat):Int)*_<=_;omega) (by omega);simpa[show Tryz.t5.size=1 from rfl,Value.cells,e1]using this
 have hcp:(Builtin.copy_ #[264,264] 3 #[.slice (some ⟨w.heap.size,0,none⟩) n (n+k),.slice sp n c]).run Qa (w.alloc (.cells (madeCells #[.int .u8 0] (n+k)) 5))= .ok (goInt n) ((w.alloc (.cells (madeCells #[.int .u8 0] (n+k)) 5)).setRow w.heap.size (cs++(madeCells #[.int .u8 0] (n+k)).toList.drop n).toArray):=by
  have hg:(w.alloc (.cells (madeCells #[.int .u8 0] (n+k)) 5)).heap[w.heap.size]?=some (.cells (madeCells #[.int .u8 0] (n+k)) 5 (0,0)):=heap_alloc_new w _;rcases Nat.eq_zero_or_pos n with h0|h0
  ·have hc0:cs=[]:=QJ (by omega);subst hc0;have:=run_copy_none (P:=Qa) (w.alloc (.cells (madeCells #[.int .u8 0] (n+k)) 5)) 264 264 3 5 (some ⟨w.heap.size,0,none⟩) sp n (n+k) n c underlying264 (by kernel_rfl) (by rw[h0];rfl);rw[this,h0];simp only[Qr,Q9,Array.toArray_toList];rw[setRow_self _ _ _ 5 (0,0) (by rw[h0]at hg;exact hg)];rfl
  ·obtain⟨ad,rfl,hs⟩:=hsrc h0;have:=run_copy_row (P:=Qa) (w.alloc (.cells (madeCells #[.int .u8 0] (n+k)) 5)) 264 264 3 5 w.heap.size 0 n (n+k) ad n c (madeCells #[.int .u8 0] (n+k)) 5 cs underlying264 (by kernel_rfl) hg (by rw[hl];simp) (λj v hv=>by rw[World.cell?_alloc_old _ _ _ (Nat.ne_of_lt (World.block_lt_of_cell? _ _ (hs j v hv)))];exact hs j v hv) (by simp[madeCells];omega) h1;rw[this,hl];simp[]
 go_enter func327,ntmps327
 go_wp2
 go_ret
 exact⟨rfl,rfl⟩
def alloc_setRow(w:World)(a b:Array Value)(e:TypeId):(w.alloc (.cells a e)).setRow w.heap.size b=w.alloc (.cells b e):=by
 have h:∀(F:Obj->Obj),(w.heap.push (.cells a e)).modify w.heap.size F=w.heap.push (F (.cells a e)):=by
  intro F;apply Zz;intro i;rw[Array.getElem?_modify];by_cases hi:w.heap.size=i
  ·subst hi;simp
  ·rw[if_neg hi];rcases Zj i w.heap.size with hlt|hge
   ·simp[Zu,Ne.symm hi]
   ·simp[Zu,show i≠w.heap.size from Ne.symm hi]
 unfold World.setRow World.alloc;simp only[h]
def ok327:grownQ.ok Qa 327:=by
 refine⟨⟨f327,func327,rfl,by kernel_rfl⟩,λds m m' fr _=>rfl,?_⟩;intro B w0 w m g fr ds vs r u hi hfresh hl hrep hex;simp only[grownQ]at hex;split at hex
 ·rename_i nl t xs k;split at hex
  ·rename_i hc;obtain⟨hk0,hall,hk⟩:=hc;simp only[Qc,QL]at hex;obtain⟨rfl,rfl⟩:=hex
   match vs,hl with
   |[v0,v1],_=>
    have hr0:=hrep 0 _ v0 rfl rfl;have hr1:=(hrep 1 _ v1 rfl rfl).int_inv;subst hr1;have hcell:∀d∈xs,d.cells.length=1∧d.calm=true:=by
     intro d hd;have:=Zg.1 hall d hd;unfold Fl at this;split at this
     ·exact⟨rfl,rfl⟩
     ·cases this
    obtain⟨sp,c,cs,e0,hcl,hreps,hsrc⟩:∃(sp:Option Addr)(c:Nat)(cs:List Value),v0= .slice sp xs.length c∧cs.length=xs.length∧A3 w g (flat xs) cs∧
      (0<xs.length->∃ad,sp=some ad∧∀(j:Nat) v,cs[j]?=some v->w.cell? (ad.add j)=some v):=by
     cases nl with
     |true=>
      rcases hr0.slice_inv with ⟨_,rfl,e⟩|⟨h,_⟩
      ·exact⟨none,0,[],e,rfl,A3.nil w g,λh=>by simp at h⟩
      ·cases h
     |false=>
      obtain⟨ad,n,c,sz,ws,ev,hn,hnc,hsz,hwl,hrp,hcl,_⟩:=hr0.slice_list;subst hn;refine⟨some ad,c,ws,ev,?_,hrp,λ_=>⟨ad,rfl,hcl⟩⟩;rw[hwl];cases xs with
      |nil=>simp
      |cons x r=>
       have h1:=hsz x (Qp ..);rw[(hcell x (Qp ..)).1]at h1;rw[←h1,Nat.mul_one]
    subst e0;have hkn:((k.toNat:Nat):Int)=k:=QP hk0;have hw:=walk327 w sp xs.length c k.toNat cs hcl hreps.2.1 (by omega) hsrc;rw[hkn]at hw;refine hw.mono ?_;rintro e w' ⟨rfl,rfl⟩;rw[alloc_setRow];have hsz:(cs++(madeCells #[Value.int .u8 0] (xs.length+k.toNat)).toList.drop xs.length).toArray.size=(xs.length+k.toNat)*1:=by simp[madeCells,hcl]
    have hinfo:∃ti z,Tryz.prog.info? 5=some ti∧ti.size=1∧ti.zero=some z∧z.cells.size=1:=⟨Tryz.t5,.int .u8 0,by kernel_rfl,by kernel_rfl,by kernel_rfl,by kernel_rfl⟩;have hf0:=hfresh (0::fr) (List.suffix_cons 0 fr);have hinv:=hi.newTok hf0 (e:=5) (n:=xs.length) (c:=xs.length+k.toNat) (sz:=1) (cur:=(cs++(madeCells #[Value.int .u8 0] (xs.length+k.toNat)).toList.drop xs.length).toArray) (by decide) hinfo (by omega) (by unfold maxLen;omega) hsz;have hext:=Ext.newTok (w:=w) (t:=0::fr) (n:=xs.length) (c:=xs.length+k.toNat) (sz:=1) (Obj.cells (cs++(madeCells #[Value.int .u8 0] (xs.length+k.toNat)).toList.drop xs.length).toArray 5) hi.gz hf0.2.2 rfl;refine⟨_,_,rfl,hinv,hext,?_,λi hf hn=>CO hf (λh=>hn ((List.suffix_cons 0 fr).trans h)) _ _ _ _ _⟩;refine Rep.ofRow (sz:=1) (cur:=(cs++(madeCells #[Value.int .u8 0] (xs.length+k.toNat)).toList.drop xs.length).toArray) (T:=5) (fz:=(0,0)) (heap_alloc_new w _) rfl (by omega) (λd hd=>(hcell d hd).1) (hreps.ext hext) (λj v hv=>?_) (by simp[Gh.tok]) (λ_=>by simp[Gh.tok]) (λd hd=>(hcell d hd).2);rw[List.getElem?_toArray,List.getElem?_append_left (QI.1 hv).1];exact hv
  ·cases hex
 ·cases hex
def sl_of{d:D}{n:Bool}{t:Id}{xs ys:List D}(h:d= .slice n t xs)(e:xs=ys):d= .slice n t ys:=e▸h
def loop126{S:Summs}(s231:S 231=some (cQ 5 rowW F231)){l:List Mt}{nl:Bool}{Q:Ex->St->Prop}(hl:MsOk l)
  (hexit:∀st n t,st.s 3= .slice n t (Au (Cp l))->Q (.exit 0) st):
  ∀(f j:Nat)(n:Bool)(t:Id)(st:St) g,l.length=j+f->st.s 3= .slice n t (Au (Cp (l.take j)))->st.s 8= .slice nl [] (Ar l)->st.s 9= .int .i64 (l.length:Int)->st.s 10= .int .i64 (j:Int)->A4 S [] dc126l0 Q st g:=by
 intro f;induction f with
 |zero=>
  intro j n t st g hf h3 h8 h9 h10;refine Ae dc126l0.eq_1 ?_;have:¬((j:Int)<l.length):=by omega
  simp only[↓go1,go2,go4,reduceIte,Qq,h9,h10,this];rw[QU (by omega)]at h3;exact hexit _ n t h3
 |succ f ih=>
  intro j n t st g hf h3 h8 h9 h10;refine Ae dc126l0.eq_1 ?_;have hj:j<l.length:=by omega
  have hlt:((j:Int)<l.length):=by omega
  have hj0:=nJ (j:=j);have hl0:=hl.1;have hb:=tabB_le hl j (by omega);have hp:=hl.2 _ (mtAt_mem hj);have hw:=wJ (j:=j) (by omega);have hat:(Ar l)[j]?=some (.agg [.str (A0 l j).1,.int .i64 (A0 l j).2.1,.bool (A0 l j).2.2]):=DA hj;have htk:=tabB_take hj;generalize A0 l j=m at hat hp htk;obtain⟨p,k,b⟩:=m;simp only at hp hat;have hF:F231 [.str p]=some (Au (rowB p),[17]):=if_pos (by omega);obtain⟨st_s,st_m,st_c⟩:=st;simp only at h3 h8 h9 h10;cases b with
  |true=>
   simp only[↓go1,gB0,simprocAttr,h8,h9,h10,h3,hlt,hj0,Qo,hat,Ah s231,Af,Ap,Aq,Qs,Option.bind_some,Zv,Zs,QV];refine got_c (bytes_all _) (by rw[Bu];omega) hF ?_;simp only[↓go1,gB0,simprocAttr,rowW,h3,and_false,u8_wrap,Af,Qs,and_false];refine Ao.intro ⟨by simp only[Qf,Bu,rowB_len];omega,rfl,.inr ⟨by simp[Bf],by simp⟩⟩ ?_;simp only[↓go1,gB2,simprocAttr,h10,hw];refine ih (j+1) false _ _ _ (by omega) (sl_of rfl ?_) h8 h9 rfl;rw[htk];simp only[mtB,CK,QK];simp only[Au,Zl,Zp];rw[D6 (by omega)];rfl
  |false=>
   simp only[↓go1,gB0,simprocAttr,h8,h9,h10,h3,hlt,hj0,Qo,hat,Ah s231,Af,Ap,Aq,Qs,Option.bind_some,Zv,Zs,QV];refine got_c (bytes_all _) (by rw[Bu];omega) hF ?_;simp only[↓go1,gB0,simprocAttr,rowW,h3,and_false,u8_wrap,Af,Qs,and_false];refine Ao.intro ⟨by simp only[Qf,Bu,rowB_len];omega,rfl,.inr ⟨by simp[Bf],by simp⟩⟩ ?_;simp only[↓go1,gB2,simprocAttr,h10,hw];refine ih (j+1) false _ _ _ (by omega) (sl_of rfl ?_) h8 h9 rfl;rw[htk];simp only[mtB,CK,QK];simp only[Au,Zl,Zp];rw[D6 (by omega)];rfl
def mk126(p:Bool×List Mt):List D:=[.agg [.slice p.1 [] (Ar p.2)]]
def mk126_inj(x y:Bool×List Mt)(e:mk126 x=mk126 y):x=y:=by
 simp only[mk126,QW,D.agg.injEq,D.slice.injEq,true_and,and_true]at e;exact Prod.ext e.1 (mtsD_inj e.2)
def F126:List D->Option D:=FX mk126 (λp=>MsOk p.2) (λp=> .str (Cp p.2))
def F126_eq{n:Bool}{l:List Mt}(h:MsOk l):F126 [.agg [.slice n [] (Ar l)]]=some (.str (Cp l)):=Bq (mk:=mk126) (a:=(n,l)) mk126_inj h
def ok126:(Ac F126).ok Qa 126:=by
 obtain⟨S,hS,hl⟩:=A6 (Ab (ok231 ok327) Ad);have s231:=hl 231 _ rfl;clear hl;refine Bx hS fn126 (λ_=>by simp[mk126]) (λp hp=>?_);obtain⟨n,l⟩:=p;have hl:MsOk l:=hp;unfold dc126 mk126;simp only[↓go1,go2,go3,simprocAttr,Av,Af,Qg,Nat.sub_zero,gB3,Q_,Ql,and_self];refine loop126 s231 hl (λst n' t' e=>?_) l.length 0 true [] _ _ (by omega) rfl rfl rfl rfl;simp only[↓go1,go2,go3,simprocAttr,e,b2sV,Cr,and_self]
def msO(o:Oc)(nl:Bool)(l:List Mt):Oc:={o with vw:={o.vw with nlm:=nl,ms:=l}}
def mntO(o:Oc)(nl:Bool)(l:List Mt):Oc:={(msO o nl l).op 1 (Bn 4 [] 0) (Cp l)with rep:=ryT .done}
def umO(o:Oc)(nl:Bool)(l:List Mt)(p:Bs):Oc:={((((msO o nl l).op 1 (Bn 4 [] 0) (Cp l)).op 3 ([109,47]++p++[47]) []).op 3 ([100,47]++p++[47]) [])with rep:=ryT .done}
def S58:Summs:=AF [(45,Ac F45),(54,wQ W54),(123,Ac CL),(126,Ac F126),(122,wQ FH),(56,wQ W56)]
def W58:Wb->Oc->List D->Option WY:=RW S58 dc58 [] 48
def ko58:(wQ W58).ok Qa 58:=Df fn58 (Ab ok45 (Ab ko54 (Ab ko123 (Ab ok126 (Ab ko122 (Ab ko56 Ad))))))
def W58_fail(w:Wb)(o:Oc)(o2:Oc)(ol:Option (List Nat))(ho:o.nl=true->o.ops=[])(nl2:Bool)(l2:List Mt)(e:Int)(h45:F45 [.agg [.slice w.v.nlm [] (Ar w.v.ms)],.agg [.str w.a.pa,.int .i64 w.a.n,.bool w.a.fl]]=some (.tup [.agg [.slice nl2 [] (Ar l2)],.int .i64 e]))(he:e≠0)(h54:W54 w o [.int .i64 e]=some (.tup [],o2,ol)):W58 w o []=some (.tup [],o2,ol.map (·++[33])):=by
 refine Bd ho ⟨Qb rfl,λh=>CC h54 h,λl h=>CB h54 h,λi m fr t ha hfr hni hni0=>?_⟩;have s54:S58 54=some (wQ W54):=rfl;have hW:=Wt.start ha hfr;unfold dc58;have xx:=AS ha.1;simp only[gB1,↓go1,go5,simprocAttr,xx,An S58 45,h45];refine Ao.intro ?_ ?_
 ·intro pp hpp l hl;simp only[Qh,Qm,or_false]at hpp;rcases hpp with rfl|rfl|rfl|rfl|rfl|rfl
  ·exact AA hl
  ·have hl1:l.1=26::fr:=AE hl;refine⟨λh=>?_,λh=>AA h⟩;change l∈Ai i _ 1 at h;exact(hni0 26).mp ((AU h).symm.trans hl1)
  ·have hl1:l.1=26::fr:=AE hl;refine⟨λh=>?_,λh=>AA h⟩;change l∈Ai i _ 1 at h;exact(hni0 26).mp ((AU h).symm.trans hl1)
  ·have hl1:l.1=26::fr:=AE hl;refine⟨λh=>?_,λh=>AA h⟩;change l∈Ai i _ 1 at h;exact(hni0 26).mp ((AU h).symm.trans hl1)
  ·have hl1:l.1=26::fr:=AE hl;refine⟨λh=>?_,λh=>AA h⟩;change l∈Ai i _ 1 at h;exact(hni0 26).mp ((AU h).symm.trans hl1)
  ·have hl1:l.1=26::fr:=AE hl;exact⟨λh=>AA h,λh=>AA h⟩
 simp only[↓go1,gB2,go5,simprocAttr,eq_false he,Ah s54];refine Aw ((hW.put hfr hni0).put hfr hni0) hfr hni h54 ⟨_,_,_,_,rfl⟩ (λM c1 c2=>?_);simp only[↓go1,go2,simprocAttr];exact c1.endc ha.2.2
def W58_ok(w:Wb)(o:Oc)(nl2:Bool)(l2:List Mt)(h45:F45 [.agg [.slice w.v.nlm [] (Ar w.v.ms)],.agg [.str w.a.pa,.int .i64 w.a.n,.bool w.a.fl]]=some (.tup [.agg [.slice nl2 [] (Ar l2)],.int .i64 0]))(h0:Oc0 o)(hms:MsOk l2):W58 w o []=some (.tup [],mntO o nl2 l2,some ([11,42])):=by
 refine Bd (λ_=>h0.ops) ⟨Qb rfl,λh=>(by cases h),λl h=>(by simp only[Qc]at h;subst h;exact⟨rfl,by simp⟩),λi m fr t ha hfr hni hni0=>?_⟩;have s123:S58 123=some (Ac CL):=rfl;have s126:S58 126=some (Ac F126):=rfl;have s122:S58 122=some (wQ FH):=rfl;have s56:S58 56=some (wQ W56):=rfl;have hW:=Wt.start ha hfr;unfold dc58;have xx:=AS ha.1;have hk:=CP 4 0 [] (by simp);have h123:=hk;have h126:=F126_eq (n:=nl2) hms;have h122:=DK w (msO o nl2 l2) 1 (Bn 4 [] 0) (Cp l2) (λ_=>h0.ops) (by show o.ops.length<=_;rw[h0.ops];simp);have h56:=W56_eq w ((msO o nl2 l2).op 1 (Bn 4 [] 0) (Cp l2)) (λh=>by cases h);simp only[gB1,↓go1,go5,simprocAttr,xx,An S58 45,h45];refine Ao.intro ?_ ?_
 ·intro pp hpp l hl;simp only[Qh,Qm,or_false]at hpp;rcases hpp with rfl|rfl|rfl|rfl|rfl|rfl
  ·exact AA hl
  ·have hl1:l.1=26::fr:=AE hl;refine⟨λh=>?_,λh=>AA h⟩;change l∈Ai i _ 1 at h;exact(hni0 26).mp ((AU h).symm.trans hl1)
  ·have hl1:l.1=26::fr:=AE hl;refine⟨λh=>?_,λh=>AA h⟩;change l∈Ai i _ 1 at h;exact(hni0 26).mp ((AU h).symm.trans hl1)
  ·have hl1:l.1=26::fr:=AE hl;refine⟨λh=>?_,λh=>AA h⟩;change l∈Ai i _ 1 at h;exact(hni0 26).mp ((AU h).symm.trans hl1)
  ·have hl1:l.1=26::fr:=AE hl;refine⟨λh=>?_,λh=>AA h⟩;change l∈Ai i _ 1 at h;exact(hni0 26).mp ((AU h).symm.trans hl1)
  ·have hl1:l.1=26::fr:=AE hl;exact⟨λh=>AA h,λh=>AA h⟩
 simp only[gB1,↓go1,go5,simprocAttr,xx,hni0,Aa s123,h123,Aa s126,h126,Ah s122];refine Cu (((hW.put hfr hni0).put hfr hni0).cellp (p:=28) (ys:=[.slice nl2 [] (Ar l2)]) (o':=msO o nl2 l2) (Qb rfl) rfl rfl rfl) hfr hni h122 ⟨_,_,_,_,rfl⟩ (λM u hu c1 c2=>?_);simp only[↓go1,go2,go3,simprocAttr];refine Ao.intro ?_ ?_
 ·intro pp hpp l hl;simp only[Qh,Qm,or_false]at hpp;subst hpp;exact AA hl
 simp only[↓go1,go2,go4,simprocAttr,Ah s56];refine Aw c1 hfr hni h56 ⟨_,_,_,_,rfl⟩ (λM2 d1 d2=>?_);simp only[↓go1,go2,simprocAttr];exact d1.endl (l:=[11,42]) (by simp)
def S59:Summs:=AF [(127,Ac R127),(54,wQ W54),(123,Ac CL),(126,Ac F126),(122,wQ FH),(128,Ac R128),(56,wQ W56)]
def W59:Wb->Oc->List D->Option WY:=RW S59 dc59 [] 53
def ko59:(wQ W59).ok Qa 59:=Df fn59 (Ab ko127 (Ab ko54 (Ab ko123 (Ab ok126 (Ab ko122 (Ab ko128 (Ab ko56 Ad)))))))
def W59_fail(w:Wb)(o:Oc)(o2:Oc)(ol:Option (List Nat))(ho:o.nl=true->o.ops=[])(nl2:Bool)(l2:List Mt)(e:Int)(h127:R127 [.agg [.slice w.v.nlm [] (Ar w.v.ms)],.str w.a.pa]=some (.tup [.agg [.slice nl2 [] (Ar l2)],.int .i64 e]))(he:e≠0)(h54:W54 w o [.int .i64 e]=some (.tup [],o2,ol)):W59 w o []=some (.tup [],o2,ol.map (·++[21])):=by
 refine Bd ho ⟨Qb rfl,λh=>CC h54 h,λl h=>CB h54 h,λi m fr t ha hfr hni hni0=>?_⟩;have s54:S59 54=some (wQ W54):=rfl;have hW:=Wt.start ha hfr;unfold dc59;have xx:=AS ha.1;simp only[gB1,↓go1,go5,simprocAttr,xx,An S59 127,h127];refine Ao.intro ?_ ?_
 ·intro pp hpp l hl;simp only[Qh,Qm,or_false]at hpp;rcases hpp with rfl|rfl|rfl|rfl
  ·exact AA hl
  ·have hl1:l.1=14::fr:=AE hl;refine⟨λh=>?_,λh=>AA h⟩;change l∈Ai i _ 1 at h;exact(hni0 14).mp ((AU h).symm.trans hl1)
  ·have hl1:l.1=14::fr:=AE hl;refine⟨λh=>?_,λh=>AA h⟩;change l∈Ai i _ 1 at h;exact(hni0 14).mp ((AU h).symm.trans hl1)
  ·have hl1:l.1=14::fr:=AE hl;exact⟨λh=>AA h,λh=>AA h⟩
 simp only[↓go1,gB2,go5,simprocAttr,eq_false he,Ah s54];refine Aw ((hW.put hfr hni0).put hfr hni0) hfr hni h54 ⟨_,_,_,_,rfl⟩ (λM c1 c2=>?_);simp only[↓go1,go2,simprocAttr];exact c1.endc ha.2.2
def W59_ok(w:Wb)(o:Oc)(nl2:Bool)(l2:List Mt)(h127:R127 [.agg [.slice w.v.nlm [] (Ar w.v.ms)],.str w.a.pa]=some (.tup [.agg [.slice nl2 [] (Ar l2)],.int .i64 0]))(h0:Oc0 o)(hms:MsOk l2)(hp:w.a.pa.length<=1000000):W59 w o []=some (.tup [],umO o nl2 l2 w.a.pa,some ([11,54])):=by
 refine Bd (λ_=>h0.ops) ⟨Qb rfl,λh=>(by cases h),λl h=>(by simp only[Qc]at h;subst h;exact⟨rfl,by simp⟩),λi m fr t ha hfr hni hni0=>?_⟩;have s123:S59 123=some (Ac CL):=rfl;have s126:S59 126=some (Ac F126):=rfl;have s122:S59 122=some (wQ FH):=rfl;have s128:S59 128=some (Ac R128):=rfl;have s56:S59 56=some (wQ W56):=rfl;have hW:=Wt.start ha hfr;unfold dc59;have xx:=AS ha.1;have hk:=CP 4 0 [] (by simp);have h123:=hk;have h126:=F126_eq (n:=nl2) hms;have h122:=DK w (msO o nl2 l2) 1 (Bn 4 [] 0) (Cp l2) (λ_=>h0.ops) (by show o.ops.length<=_;rw[h0.ops];simp);have h128:=R128_eq w.a.pa hp;generalize hq1:([109,47]++w.a.pa++[47]:Bs)=q1 at h128;generalize hq2:([100,47]++w.a.pa++[47]:Bs)=q2 at h128;have ha1:=DK w ((msO o nl2 l2).op 1 (Bn 4 [] 0) (Cp l2)) 3 q1 [] (λh=>by cases h) (by simp[Oc.op,msO,h0.ops]);have ha2:=DK w (((msO o nl2 l2).op 1 (Bn 4 [] 0) (Cp l2)).op 3 q1 []) 3 q2 [] (λh=>by cases h) (by simp[Oc.op,msO,h0.ops]);have h56:=W56_eq w ((((msO o nl2 l2).op 1 (Bn 4 [] 0) (Cp l2)).op 3 q1 []).op 3 q2 []) (λh=>by cases h);have y0:((0:Nat):Int)=0:=rfl;have y1:((1:Nat):Int)=1:=rfl;have y2:((2:Nat):Int)=2:=rfl;have w1:IntKind.i64.wrap 1=1:=rfl;have w2:IntKind.i64.wrap 2=2:=rfl;have z1:(0:Int)+1=1:=rfl;have z2:(1:Int)+1=2:=rfl;unfold umO;rw[hq1,hq2];simp only[gB1,↓go1,go5,simprocAttr,xx,An S59 127,h127];refine Ao.intro ?_ ?_
 ·intro pp hpp l hl;simp only[Qh,Qm,or_false]at hpp;rcases hpp with rfl|rfl|rfl|rfl
  ·exact AA hl
  ·have hl1:l.1=14::fr:=AE hl;refine⟨λh=>?_,λh=>AA h⟩;change l∈Ai i _ 1 at h;exact(hni0 14).mp ((AU h).symm.trans hl1)
  ·have hl1:l.1=14::fr:=AE hl;refine⟨λh=>?_,λh=>AA h⟩;change l∈Ai i _ 1 at h;exact(hni0 14).mp ((AU h).symm.trans hl1)
  ·have hl1:l.1=14::fr:=AE hl;exact⟨λh=>AA h,λh=>AA h⟩
 simp only[gB1,↓go1,go5,simprocAttr,xx,hni0,Aa s123,h123,Aa s126,h126,Ah s122];refine Cu (((hW.put hfr hni0).put hfr hni0).cellp (p:=28) (ys:=[.slice nl2 [] (Ar l2)]) (o':=msO o nl2 l2) (Qb rfl) rfl rfl rfl) hfr hni h122 ⟨_,_,_,_,rfl⟩ (λM u hu c1 c2=>?_);have xx:=AS c1.at_.1;simp only[↓go1,go2,go3,simprocAttr];refine Ao.intro ?_ ?_
 ·intro pp hpp l hl;simp only[Qh,Qm,or_false]at hpp;subst hpp;exact AA hl
 simp only[↓go1,gB2,go5,simprocAttr,xx.2.2.2.2.2.2.2.1,Aa s128,h128,gB3];refine Ae dc59l0.eq_1 ?_;simp only[↓go1,gB2,go5,simprocAttr,Zk,gB3,Ah s122];refine Aw c1 hfr hni ha1 ⟨_,_,_,_,rfl⟩ (λM2 d1 d2=>?_);simp only[↓go1,go2,simprocAttr,w1,z1];refine Ae dc59l0.eq_1 ?_;simp only[↓go1,gB2,go5,simprocAttr,Int.toNat_one,gB3,Ah s122];refine Aw d1 hfr hni ha2 ⟨_,_,_,_,rfl⟩ (λM3 e1 e2=>?_);simp only[↓go1,go2,simprocAttr,w2,z2];refine Ae dc59l0.eq_1 ?_;simp only[↓go1,gB2,go5,simprocAttr,Ah s56];refine Aw e1 hfr hni h56 ⟨_,_,_,_,rfl⟩ (λM4 f1 f2=>?_);simp only[↓go1,go2,simprocAttr];exact f1.endl (l:=[11,54]) (by simp)
end Go.Vd
namespace Go.Vd
open Go.Proofs
def dc233l0:=y1 f233 5 [] []
def dc233l1:=y1 f233 13 [] []
def dc233:=y0 f233 [] [(5,dc233l0),(13,dc233l1)]
def fn233:Fn Qa 233 46 dc233 [.t 2,.t 3]:=Am func233
def dc130:=y0 f130 [] []
def fn130:Fn Qa 130 31 dc130 [.t 2,.t 3]:=Am func130
end Go.Vd
namespace Go.Vd
open Go.Proofs Go.RowKit
def rowQ(s:Bs):Bs:=beB 2 (s.length:Int)++s
def Cl(l:List Bs):Bs:=l.flatMap rowQ
def quillR_snoc(l:List Bs)(s:Bs):Cl (l++[s])=Cl l++beB 2 (s.length:Int)++s:=by simp[Cl,rowQ]
def quillR_len:∀{l:List Bs},(∀s∈l,s.length<=60000)->(Cl l).length<=60002*l.length
 |[],_=>by simp[Cl]
 |x::r,h=>by
  have ih:=quillR_len (l:=r) (λs hs=>h s (Qx _ hs));have hx:=h x Qp;have e:Cl (x::r)=rowQ x++Cl r:=by simp[Cl]
  rw[e];simp only[Qf,rowQ,GC,QB];omega
def S233:Summs:=AF [(326,gQ 5 F326)]
def R233:List D->Option D:=RF S233 dc233 [.t 2,.t 3] 46
def ko233:(Ac R233).ok Qa 233:=AH fn233 (Ab ok326 Ad)
def R233_eq(nl:Bool)(l:List Bs)(hl:l.length<=1024)(hs:∀s∈l,s.length<=60000):R233 [.slice nl [] (Ay l)]=some (.tup [.slice false [] (Au (Cl l)),.int .i64 0]):=by
 refine AG (Qb rfl) ?_;have s326:S233 326=some (gQ 5 F326):=rfl;unfold dc233;have hlen:((1024:Int)<(l.length:Int))=False:=eq_false (by omega);simp only[↓go1,go2,go4,go5,reduceIte,Qj,Qq,reduceCtorEq,A1,hlen];refine Bm (n:=l.length) (I:=λj st=>st.s 13= .slice nl [] (Ay l)∧st.s 14= .int .i64 l.length∧st.s 15= .int .i64 (j:Int)∧st.s 0= .slice nl [] (Ay l)∧∃a:Int,st.s 4= .int .i64 a∧0<=a∧a<=60002*(j:Int)) (λj hj ih st g hI=>?_) (λst g hI=>?_) 0 (Qg _) _ _ ⟨rfl,rfl,rfl,rfl,0,rfl,by omega,by omega⟩
 ·obtain⟨st_s,st_m,st_c⟩:=st;obtain⟨h13,h14,h15,h0,a,h4,ha1,ha2⟩:=hI;simp only at h13 h14 h15 h0 h4;refine Ae dc233l0.eq_1 ?_;have hlt:((j:Int)<(l.length:Int))=True:=eq_true (by omega);have hj0:=nJ (j:=j);have hw:IntKind.i64.wrap ((j:Int)+1)=((j+1:Nat):Int):=by rw[w64 (by omega) (by omega)];omega
  have hat:=D7 (l:=l) (j:=j) hj;have hx:=hs l[j] (QC hj);generalize l[j]=x at hat hx;have hb:((65535:Int)<(x.length:Int))=False:=eq_false (by omega);have w1:IntKind.i64.wrap (2+(x.length:Int))=2+(x.length:Int):=w64 (by omega) (by omega);have w2:IntKind.i64.wrap (a+(2+(x.length:Int)))=a+(2+(x.length:Int)):=w64 (by omega) (by omega);simp only[↓go1,gB2,go5,reduceIte,Qj,Qq,h13,h14,h15,h4,hlt,hj0,Qo,hat,hb,w1,w2,hw];exact ih _ _ ⟨h13,h14,rfl,h0,_,rfl,by omega,by omega⟩
 ·obtain⟨st_s,st_m,st_c⟩:=st;obtain⟨h13,h14,h15,h0,a,h4,ha1,ha2⟩:=hI;simp only at h13 h14 h15 h0 h4;refine Ae dc233l0.eq_1 ?_;have ha3:¬(a<0):=by omega
  simp only[↓go1,gB2,go5,reduceIte,Qj,Qq,Q0,h14,h15,h4,Q6,ha1];refine Ao.intro (by have e2:((1:Nat):Int)+1=2:=rfl;rw[e2];omega) ?_;simp only[↓go1,go2,go5,reduceIte,Qj,Qq,reduceCtorEq,h0,A1,Zk,List.replicate_zero];refine Bm (n:=l.length) (I:=λj st=>st.s 30= .slice nl [] (Ay l)∧st.s 31= .int .i64 l.length∧st.s 32= .int .i64 (j:Int)∧∃t,st.s 7= .slice false t (Au (Cl (l.take j)))∧Gd 5 [] (λ_ _=>none) true [] st.m st.c t) (λj hj ih st g hI=>?_) (λst g hI=>?_) 0 (Qg _) _ _ ⟨rfl,rfl,rfl,_,rfl,⟨[],_,rfl,by simp only;omega⟩,by simp[Mem.put],λi o hi=>absurd ⟨i,by simp⟩ hi⟩
  ·obtain⟨st_s,st_m,st_c⟩:=st;obtain⟨h30,h31,h32,t,h7,hG⟩:=hI;simp only at h30 h31 h32 h7 hG;refine Ae dc233l1.eq_1 ?_;have hlt:((j:Int)<(l.length:Int))=True:=eq_true (by omega);have hj0:=nJ (j:=j);have hw:IntKind.i64.wrap ((j:Int)+1)=((j+1:Nat):Int):=by rw[w64 (by omega) (by omega)];omega
   have hat:=D7 (l:=l) (j:=j) hj;have hx:=hs l[j] (QC hj);have htk:l.take (j+1)=l.take j++[l[j]]:=QO hj;have hle:(Cl (l.take j)).length<=60002*j:=by
    have:=quillR_len (l:=l.take j) (λs hh=>hs s (QD hh));rw[Qv]at this;omega
   generalize l[j]=x at hat hx htk;have wu:IntKind.u64.wrap (x.length:Int)=(x.length:Int):=by
    unfold IntKind.wrap;simp only;rw[show IntKind.u64.bits=64 from rfl,show IntKind.u64.signed=false from rfl,Bool.false_and,if_neg Bool.false_ne_true];omega
   have hF:F326 [.int .i64 2,.int .u64 (x.length:Int)]=some (Au (beB 2 (x.length:Int)),[26]):=by
    show(if 1<=(2:Int)∧(2:Int)<=8∧0<=(x.length:Int)then some (Au (beB (2:Int).toNat (x.length:Int)),[13*(2:Int).toNat])else none)=_;rw[if_pos ⟨by omega,by omega,by omega⟩];rfl
   have hG1:=hG.gs;have hg0:BO (λ_ _=>none) 5 true [] true=true:=rfl;simp only[↓go1,gB2,go5,reduceIte,Qj,Qq,h30,h31,h32,h7,hlt,hj0,Qo,hat,wu,Ah s326];refine got_g (hG1.grow (λ_ _ _=>rfl) hg0) (λh=>by cases h) (by simp[Au];omega) hF ?_;have hA:=hG1.app (k:=st_c+1+3+4) (c':=st_c+1+3+5) (l:=[26]) (xs:=Au (Cl (l.take j))) (by omega) (by omega);simp only[↓go1,go2,go3,go5,reduceIte,Qj,Qq];refine Ao.intro ⟨by simp only[Qf,Au,Qk,GC];omega,by cases x<;>rfl,hA.gs.grow (λ_ _ _=>rfl) hg0⟩ ?_;have hB:=hA.gs.app (k:=st_c+1+3+6+2) (c':=st_c+1+3+6+3) (l:=[]) (xs:=Au (Cl (l.take j))++Au (beB 2 (x.length:Int))) (by omega) (by omega);simp only[↓go1,go2,go5,reduceIte,Qj,Qq,h32,hw];refine ih _ _ ⟨h30,h31,rfl,_,?_,hB.more (by simp only;omega)⟩;rw[htk,quillR_snoc];show D.slice _ _ _=_;simp[Au]
  ·obtain⟨st_s,st_m,st_c⟩:=st;obtain⟨h30,h31,h32,t,h7,hG⟩:=hI;simp only at h30 h31 h32 h7 hG;refine Ae dc233l1.eq_1 ?_;rw[Q1]at h7;simp only[↓go1,gB2,go5,reduceIte,Qj,Qq,h31,h32,h7,Q6]
   all_goals first|rfl|exact⟨rfl,rfl⟩|simp[*]
def S130:Summs:=AF [(113,Ac F113),(232,Ac F232),(233,Ac R233)]
def R130:List D->Option D:=RF S130 dc130 [.t 2,.t 3] 31
def ko130:(Ac R130).ok Qa 130:=AH fn130 (Ab ok113 (Ab ok232 (Ab ko233 Ad)))
def R130_ok(n p:Bs)(rnl:Bool)(rs:List Rl)(rt:Bs)(e2:Int)(h113:F113 [.agg [.str n,.str p,.slice rnl [] (Al rs)]]=some (.int .i64 0))(h232:F232 [.slice rnl [] (Al rs)]=some (.tup [.str rt,.int .i64 e2]))(hp:p.length<=60000)(hr:rt.length<=60000):R130 [.agg [.str n,.str p,.slice rnl [] (Al rs)]]=some (.tup [.str (Cl [p,rt]),.int .i64 0]):=by
 refine AG (Qb rfl) ?_;have s232:S130 232=some (Ac F232):=rfl;have s233:S130 233=some (Ac R233):=rfl;unfold dc130;have h233:R233 [.slice false [] [.str p,.str rt]]=some (.tup [.slice false [] (Au (Cl [p,rt])),.int .i64 0]):=R233_eq false [p,rt] (by simp) (by
  intro s hs;simp only[Qh,Qm,or_false]at hs;rcases hs with rfl|rfl
  ·exact hp
  ·exact hr)
 simp only[gB1,↓go1,go5,reduceIte,Qj,Qq,Q2,An S130 113,h113,Aa s232,h232,Aa s233,h233,Cr]
 all_goals first|rfl|exact⟨rfl,rfl⟩|simp[*]
def ksO(o:Oc)(nl:Bool)(l:List Tk):Oc:={o with vw:={o.vw with nlt:=nl,ks:=l}}
def mkO(o:Oc)(nl:Bool)(l:List Tk)(n text:Bs):Oc:={(ksO o nl l).op 1 (Bn 3 n 0) text with rep:=ryT .done}
def S60:Summs:=AF [(50,Ac F50),(129,Ac F129),(130,Ac R130),(54,wQ W54),(123,Ac CL),(122,wQ FH),(56,wQ W56)]
def W60:Wb->Oc->List D->Option WY:=RW S60 dc60 [] 72
def ko60:(wQ W60).ok Qa 60:=Df fn60 (Ab ok50 (Ab ok129 (Ab ko130 (Ab ko54 (Ab ko123 (Ab ko122 (Ab ko56 Ad)))))))
def W60_fail(w:Wb)(o:Oc)(o2:Oc)(ol:Option (List Nat))(ho:o.nl=true->o.ops=[])(nl2:Bool)(k2:List Tk)(e:Int)(h50:F50 [.agg [.slice w.v.nlt [] (Ax w.v.ks)],.agg [.str w.a.ot,.str w.a.tk,.slice w.a.nlr [] (Al w.a.rs)]]=some (.tup [.agg [.slice nl2 [] (Ax k2)],.int .i64 e]))(he:e≠0)(h54:W54 w o [.int .i64 e]=some (.tup [],o2,ol)):W60 w o []=some (.tup [],o2,ol.map (·++[47])):=by
 refine Bd ho ⟨Qb rfl,λh=>CC h54 h,λl h=>CB h54 h,λi m fr t ha hfr hni hni0=>?_⟩;have s54:S60 54=some (wQ W54):=rfl;have hW:=Wt.start ha hfr;unfold dc60;have xx:=AS ha.1;simp only[gB1,↓go1,go5,simprocAttr,xx];refine Ao.intro ?_ ?_
 ·intro pp hpp l hl;simp only[Qh,Qm,or_false]at hpp;rcases hpp with rfl|rfl|rfl
  ·have hl1:l.1=16::fr:=AE hl;refine⟨λh=>?_,λh=>AA h⟩;change l∈Ai i _ 1 at h;exact(hni0 16).mp ((AU h).symm.trans hl1)
  ·have hl1:l.1=16::fr:=AE hl;refine⟨λh=>?_,λh=>AA h⟩;change l∈Ai i _ 1 at h;exact(hni0 16).mp ((AU h).symm.trans hl1)
  ·have hl1:l.1=16::fr:=AE hl;refine⟨λh=>?_,λh=>AA h⟩;change l∈Ai i _ 1 at h;exact(hni0 16).mp ((AU h).symm.trans hl1)
 simp only[gB1,↓go1,go5,simprocAttr,xx,hni0,An S60 50,h50];refine Ao.intro ?_ ?_
 ·intro pp hpp l hl;simp only[Qh,Qm,or_false]at hpp;rcases hpp with rfl|rfl|rfl|rfl
  ·exact AA hl
  ·have hl1:l.1=28::fr:=AE hl;refine⟨λh=>?_,λh=>AA h⟩;change l∈Ai i _ 1 at h;exact(hni0 28).mp ((AU h).symm.trans hl1)
  ·have hl1:l.1=28::fr:=AE hl;refine⟨λh=>?_,λh=>AA h⟩;change l∈Ai (16::fr) 0 3 at h;have:=hl1.symm.trans (AU h);simp at this
  ·have hl1:l.1=28::fr:=AE hl;exact⟨λh=>AA h,λh=>AA h⟩
 simp only[↓go1,gB2,go5,simprocAttr,eq_false he,Ah s54];refine Aw ((((hW.put hfr hni0).put hfr hni0).put hfr hni0).put hfr hni0) hfr hni h54 ⟨_,_,_,_,rfl⟩ (λM c1 c2=>?_);simp only[↓go1,go2,simprocAttr];exact c1.endc ha.2.2
def W60_many(w:Wb)(o:Oc)(o2:Oc)(ol:Option (List Nat))(ho:o.nl=true->o.ops=[])(nl2:Bool)(k2:List Tk)(h50:F50 [.agg [.slice w.v.nlt [] (Ax w.v.ks)],.agg [.str w.a.ot,.str w.a.tk,.slice w.a.nlr [] (Al w.a.rs)]]=some (.tup [.agg [.slice nl2 [] (Ax k2)],.int .i64 0]))(nb:Bool)(ns:List D)(h129:F129 [.agg [.slice w.v.nlt [] (Ax w.v.ks)]]=some (.slice nb [] ns))(hm:(24:Int)<=(ns.length:Int))(h54:W54 w o [.int .i64 24]=some (.tup [],o2,ol)):W60 w o []=some (.tup [],o2,ol.map (·++[48])):=by
 refine Bd ho ⟨Qb rfl,λh=>CC h54 h,λl h=>CB h54 h,λi m fr t ha hfr hni hni0=>?_⟩;have s129:S60 129=some (Ac F129):=rfl;have s54:S60 54=some (wQ W54):=rfl;have hW:=Wt.start ha hfr;unfold dc60;have xx:=AS ha.1;simp only[gB1,↓go1,go5,simprocAttr,xx];refine Ao.intro ?_ ?_
 ·intro pp hpp l hl;simp only[Qh,Qm,or_false]at hpp;rcases hpp with rfl|rfl|rfl
  ·have hl1:l.1=16::fr:=AE hl;refine⟨λh=>?_,λh=>AA h⟩;change l∈Ai i _ 1 at h;exact(hni0 16).mp ((AU h).symm.trans hl1)
  ·have hl1:l.1=16::fr:=AE hl;refine⟨λh=>?_,λh=>AA h⟩;change l∈Ai i _ 1 at h;exact(hni0 16).mp ((AU h).symm.trans hl1)
  ·have hl1:l.1=16::fr:=AE hl;refine⟨λh=>?_,λh=>AA h⟩;change l∈Ai i _ 1 at h;exact(hni0 16).mp ((AU h).symm.trans hl1)
 simp only[gB1,↓go1,go5,simprocAttr,xx,hni0,An S60 50,h50];refine Ao.intro ?_ ?_
 ·intro pp hpp l hl;simp only[Qh,Qm,or_false]at hpp;rcases hpp with rfl|rfl|rfl|rfl
  ·exact AA hl
  ·have hl1:l.1=28::fr:=AE hl;refine⟨λh=>?_,λh=>AA h⟩;change l∈Ai i _ 1 at h;exact(hni0 28).mp ((AU h).symm.trans hl1)
  ·have hl1:l.1=28::fr:=AE hl;refine⟨λh=>?_,λh=>AA h⟩;change l∈Ai (16::fr) 0 3 at h;have:=hl1.symm.trans (AU h);simp at this
  ·have hl1:l.1=28::fr:=AE hl;exact⟨λh=>AA h,λh=>AA h⟩
 simp only[gB1,↓go1,go5,simprocAttr,xx,hni0,Aa s129,h129,eq_true hm,Ah s54];refine Aw ((((hW.put hfr hni0).put hfr hni0).put hfr hni0).put hfr hni0) hfr hni h54 ⟨_,_,_,_,rfl⟩ (λM c1 c2=>?_);simp only[↓go1,go2,simprocAttr];exact c1.endc ha.2.2
def W60_ok(w:Wb)(o:Oc)(nl2:Bool)(k2:List Tk)(h50:F50 [.agg [.slice w.v.nlt [] (Ax w.v.ks)],.agg [.str w.a.ot,.str w.a.tk,.slice w.a.nlr [] (Al w.a.rs)]]=some (.tup [.agg [.slice nl2 [] (Ax k2)],.int .i64 0]))(nb:Bool)(ns:List D)(h129:F129 [.agg [.slice w.v.nlt [] (Ax w.v.ks)]]=some (.slice nb [] ns))(h0:Oc0 o)(hm:¬(24:Int)<=(ns.length:Int))(text:Bs)(e3:Int)(h130:R130 [.agg [.str w.a.ot,.str w.a.tk,.slice w.a.nlr [] (Al w.a.rs)]]=some (.tup [.str text,.int .i64 e3]))(hp:w.a.ot.length<=1000000):W60 w o []=some (.tup [],mkO o nl2 k2 w.a.ot text,some ([11,67])):=by
 refine Bd (λ_=>h0.ops) ⟨Qb rfl,λh=>(by cases h),λl h=>(by simp only[Qc]at h;subst h;exact⟨rfl,by simp⟩),λi m fr t ha hfr hni hni0=>?_⟩;have s129:S60 129=some (Ac F129):=rfl;have s130:S60 130=some (Ac R130):=rfl;have s123:S60 123=some (Ac CL):=rfl;have s122:S60 122=some (wQ FH):=rfl;have s56:S60 56=some (wQ W56):=rfl;have hW:=Wt.start ha hfr;unfold dc60;have h123:=CP 3 0 w.a.ot hp;have h122:=DK w (ksO o nl2 k2) 1 (Bn 3 w.a.ot 0) text (λ_=>h0.ops) (by show o.ops.length<=_;rw[h0.ops];simp);have h56:=W56_eq w ((ksO o nl2 k2).op 1 (Bn 3 w.a.ot 0) text) (λh=>by cases h);have xx:=AS ha.1;simp only[gB1,↓go1,go5,simprocAttr,xx];refine Ao.intro ?_ ?_
 ·intro pp hpp l hl;simp only[Qh,Qm,or_false]at hpp;rcases hpp with rfl|rfl|rfl
  ·have hl1:l.1=16::fr:=AE hl;refine⟨λh=>?_,λh=>AA h⟩;change l∈Ai i _ 1 at h;exact(hni0 16).mp ((AU h).symm.trans hl1)
  ·have hl1:l.1=16::fr:=AE hl;refine⟨λh=>?_,λh=>AA h⟩;change l∈Ai i _ 1 at h;exact(hni0 16).mp ((AU h).symm.trans hl1)
  ·have hl1:l.1=16::fr:=AE hl;refine⟨λh=>?_,λh=>AA h⟩;change l∈Ai i _ 1 at h;exact(hni0 16).mp ((AU h).symm.trans hl1)
 simp only[gB1,↓go1,go5,simprocAttr,xx,hni0,An S60 50,h50];refine Ao.intro ?_ ?_
 ·intro pp hpp l hl;simp only[Qh,Qm,or_false]at hpp;rcases hpp with rfl|rfl|rfl|rfl
  ·exact AA hl
  ·have hl1:l.1=28::fr:=AE hl;refine⟨λh=>?_,λh=>AA h⟩;change l∈Ai i _ 1 at h;exact(hni0 28).mp ((AU h).symm.trans hl1)
  ·have hl1:l.1=28::fr:=AE hl;refine⟨λh=>?_,λh=>AA h⟩;change l∈Ai (16::fr) 0 3 at h;have:=hl1.symm.trans (AU h);simp at this
  ·have hl1:l.1=28::fr:=AE hl;exact⟨λh=>AA h,λh=>AA h⟩
 simp only[gB1,↓go1,go5,simprocAttr,xx,hni0,Aa s129,h129,eq_false hm,Aa s130,h130,Aa s123,h123,Ah s122];refine Aw (((((hW.put hfr hni0).put hfr hni0).put hfr hni0).put hfr hni0).cellp (p:=29) (ys:=[.slice nl2 [] (Ax k2)]) (o':=ksO o nl2 k2) (Qb rfl) rfl rfl rfl) hfr hni h122 ⟨_,_,_,_,rfl⟩ (λM c1 c2=>?_);simp only[↓go1,go2,go4,simprocAttr,Ah s56];refine Aw c1 hfr hni h56 ⟨_,_,_,_,rfl⟩ (λM2 d1 d2=>?_);simp only[↓go1,go2,simprocAttr];exact d1.endl (l:=[11,67]) (by simp)
end Go.Vd
namespace Go.Vd
open Go.Proofs
def dc382:=y0 f382 [] []
def fn382:Fn Qa 382 23 dc382 [.t 4,.t 5,.t 6]:=Am func382
def dc332:=y0 f332 [] []
def fn332:Fn Qa 332 13 dc332 [.t 4,.t 5,.t 6]:=Am func332
def dc238:=y0 f238 [] []
def fn238:Fn Qa 238 29 dc238 [.t 4,.t 5]:=Am func238
def dc62l0:=y1 f62 6 [] []
def dc62:=y0 f62 [] [(6,dc62l0)]
def fn62:Fn Qa 62 72 dc62 []:=Am func62
end Go.Vd
namespace Go.Vd
open Go.Proofs Go.RowKit
def ixB_bd:∀(l:Bs)(c:UInt8),Lib.indexByte l c=-1∨(0<=Lib.indexByte l c∧Lib.indexByte l c<(l.length:Int))
 |[],_=> .inl rfl
 |b::l,c=>by
  have ih:=ixB_bd l c;simp only[Lib.indexByte,beq_iff_eq,QB];split
  ·exact .inr ⟨by omega,by omega⟩
  ·split
   ·exact .inl rfl
   ·rcases ih with h|h
    ·rename_i h2;exact absurd h h2
    ·exact .inr ⟨by omega,by omega⟩
def Dt(s:Bs)(c:UInt8):Bs×Bs×Bool:=if Lib.indexByte s c<0 then(s,[],false)else(s.take (Lib.indexByte s c).toNat,s.drop ((Lib.indexByte s c).toNat+1),true)
def Ce(s top:Bs):Bs×Bool:=if Co s top=false then([],false)else if(Dt (C_ s top) 47).2.2=true then((Dt (C_ s top) 47).1++[47],true)else(C_ s top,true)
def IX_eq{s:Bs}{c:UInt8}:IX [.str s,.str [c]]=some (.int .i64 (Lib.indexByte s c)):=rfl
def S382:Summs:=AF [(356,Ac IX)]
def R382:List D->Option D:=RF S382 dc382 [.t 4,.t 5,.t 6] 23
def ko382:(Ac R382).ok Qa 382:=AH fn382 (Ab ko356 Ad)
def R382_eq(s:Bs)(c:UInt8)(hl:s.length<=1000000):R382 [.str s,.str [c]]=some (.tup [.str (Dt s c).1,.str (Dt s c).2.1,.bool (Dt s c).2.2]):=by
 refine AG (Qb rfl) ?_;unfold dc382;have h356:=IX_eq (s:=s) (c:=c);have hb:=ixB_bd s c;unfold Dt;generalize Lib.indexByte s c=q at *;by_cases hq:q<0
 ·have hq':((0:Int)<=q)=False:=eq_false (by omega);rw[if_pos hq];simp only[↓go1,gB2,go5,simprocAttr,An S382 356,h356,hq']
  all_goals first|rfl|exact⟨rfl,rfl⟩|simp[*]
 ·have hq':(0:Int)<=q:=by omega
  have e1:(q<=(s.length:Int))=True:=eq_true (by omega);have e2:(q+1<=(s.length:Int))=True:=eq_true (by omega);have e3:(0:Int)<=q+1:=by omega
  have e4:(q+1).toNat=q.toNat+1:=by omega
  have b1:q.toNat<=s.length:=by omega
  have b2:q.toNat+1<=s.length:=by omega
  have hw:IntKind.i64.wrap (q+1)=q+1:=w64 (by omega) (by omega);have y1:((1:Nat):Int)=1:=rfl;have m3:List.take (s.length-(q.toNat+1)) (s.drop (q.toNat+1))=s.drop (q.toNat+1):=QU (by rw[QM];omega);rw[if_neg hq];simp only[↓go1,gB2,go5,simprocAttr,An S382 356,h356,hq',e1,e2,e3,e4,hw,y1,m3,Q9,gB3];refine Ao.intro (λp hp=>by cases hp) ?_;simp only[↓go1,gB2,go5,simprocAttr]
  all_goals first|rfl|exact⟨rfl,rfl⟩|simp[*]
def S332:Summs:=AF [(382,Ac R382)]
def R332:List D->Option D:=RF S332 dc332 [.t 4,.t 5,.t 6] 13
def ko332:(Ac R332).ok Qa 332:=AH fn332 (Ab ko382 Ad)
def R332_eq(s:Bs)(c:UInt8)(hl:s.length<=1000000):R332 [.str s,.str [c]]=some (.tup [.str (Dt s c).1,.str (Dt s c).2.1,.bool (Dt s c).2.2]):=by
 refine AG (Qb rfl) ?_;unfold dc332;have h382:=R382_eq s c hl;simp only[↓go1,gB2,go5,simprocAttr,An S332 382,h382]
 all_goals first|rfl|exact⟨rfl,rfl⟩|simp[*]
def S238:Summs:=AF [(331,Ac F331),(332,Ac R332)]
def R238:List D->Option D:=RF S238 dc238 [.t 4,.t 5] 29
def ko238:(Ac R238).ok Qa 238:=AH fn238 (Ab ok331 (Ab ko332 Ad))
def R238_eq(s top:Bs)(hl:s.length<=1000000)(hr:(C_ s top).length<=s.length):R238 [.str s,.str top]=some (.tup [.str (Ce s top).1,.bool (Ce s top).2]):=by
 refine AG (Qb rfl) ?_;have s332:S238 332=some (Ac R332):=rfl;unfold dc238;have h331:F331 [.str s,.str top]=some (.tup [.str (C_ s top),.bool (Co s top)]):=rfl;have h332:=R332_eq (C_ s top) 47 (by omega);have hcl:(Dt (C_ s top) 47).1.length<=(C_ s top).length:=by
  unfold Dt;split
  ·exact Qe _
  ·simp only[Qv];omega
 unfold Ce;generalize Dt (C_ s top) 47=q at *;generalize C_ s top=r at *;obtain⟨q1,q2,q3⟩:=q;simp only at hcl h332 ⊢;cases hb:Co s top with
 |false=>
  rw[hb]at h331;simp only[↓go1,gB2,go5,simprocAttr,An S238 331,h331]
  all_goals first|rfl|exact⟨rfl,rfl⟩|simp[*]
 |true=>
  rw[hb]at h331;have ha:=add_s (a:=q1) (b:=[47]) (by simp only[Zr];omega);cases q3 with
  |false=>
   simp only[↓go1,gB2,go5,simprocAttr,An S238 331,h331,Aa s332,h332]
   all_goals first|rfl|exact⟨rfl,rfl⟩|simp[*]
  |true=>
   have hle:(q1.length+1<=9223372036854775807)=True:=eq_true (by omega);simp only[↓go1,gB2,go5,simprocAttr,An S238 331,h331,Aa s332,h332,ha]
   all_goals first|rfl|exact⟨rfl,rfl⟩|simp[*]
end Go.Vd
namespace Go.Vd
open Go.Proofs
end Go.Vd
namespace Go.Vd
open Go.Proofs Go.RowKit
def opsD_at{l:List Op1}{j:Nat}(h:j<l.length):(Da l)[j]?=some (.agg [.int .u8 l[j].1,.str l[j].2.1,.str l[j].2.2]):=by simp[Da,opD,Qd h]
end Go.Vd
namespace Go.Vd
open Go.Proofs
def dc330l0:=y1 Tryz.f330 2 [] []
def dc330:=y0 Tryz.f330 [] [(2,dc330l0)]
def fn330:Fn Qa 330 19 dc330 [.t 4]:=Am func330
def dc236:=y0 f236 [] []
def fn236:Fn Qa 236 9 dc236 [.t 4]:=Am func236
end Go.Vd
namespace Go.Vd
open Go.Proofs Go.RowKit
def firstS_at{l:List Bs}{n:Bs}{j:Nat}(hj:j<l.length)(hx:n=l[j])(hall:∀i (h:i<j),n≠l[i]'(by omega)):Be (l.map λx=>decide (n=x))=j:=by
 unfold Be;have:(l.map λx=>decide (n=x)).findIdx? id=some j:=by
  rw[List.findIdx?_eq_some_iff_getElem];refine⟨by simpa using hj,by simp[hx],λi hi=>?_⟩;have:=hall i hi;simpa using this
 rw[this]
def firstS_no{l:List Bs}{n:Bs}(hall:∀i (h:i<l.length),n≠l[i]):Be (l.map λx=>decide (n=x))=-1:=by
 unfold Be;have:(l.map λx=>decide (n=x)).findIdx? id=none:=by
  rw[List.findIdx?_eq_none_iff];intro b hb;obtain⟨x,hx,rfl⟩:=Qn.1 hb;obtain⟨i,hi,rfl⟩:=Q5 hx;simpa using hall i hi
 rw[this]
def hasSt(l:List Bs)(n:Bs):Bool:=l.any λx=>decide (n=x)
def hasSt_first(l:List Bs)(n:Bs):decide (0<=Be (l.map λx=>decide (n=x)))=hasSt l n:=by
 rw[Gy,List.any_map];rfl
def S330:Summs:=AF []
def R330:List D->Option D:=RF S330 dc330 [.t 4] 19
def ko330:(Ac R330).ok Qa 330:=AH fn330 Ad
def R330_eq{nl:Bool}{l:List Bs}(n:Bs)(hl:l.length<=100000):R330 [.slice nl [] (Ay l),.str n]=some (.int .i64 (Be (l.map λx=>decide (n=x)))):=by
 refine AG (Qb rfl) ?_;unfold dc330;simp only[↓go1,go2,simprocAttr,A1];refine Bm (n:=l.length) (I:=λj st=>st.s 0= .slice nl [] (Ay l)∧st.s 1= .str n∧st.s 7= .int .i64 l.length∧st.s 8= .int .i64 (j:Int)∧∀i (h:i<j) (h2:i<l.length),n≠l[i]) (λj hj ih st g hI=>?_) (λst g hI=>?_) 0 (Qg _) _ _ ⟨rfl,rfl,rfl,rfl,λi h=>absurd h (Nat.not_lt_zero _)⟩
 ·obtain⟨st_s,st_m,st_c⟩:=st;obtain⟨h0,h1,h7,h8,hall⟩:=hI;simp only at h0 h1 h7 h8;refine Ae dc330l0.eq_1 ?_;have hlt:((j:Int)<l.length):=by omega
  have hj0:=nJ (j:=j);have hw:=wJ (j:=j) (by omega);have hat:=D7 (l:=l) (j:=j) hj;by_cases hx:n=l[j]
  ·have e:=firstS_at hj hx (λi h=>hall i h (by omega));have hx':(n=l[j])=True:=eq_true hx;simp only[↓go1,gB2,go5,simprocAttr,h0,h1,h7,h8,hlt,hj0,Qo,hat,hx'];rw[e]
   all_goals first|rfl|exact⟨rfl,rfl⟩|simp[*]
  ·have hx':(n=l[j])=False:=eq_false hx;simp only[↓go1,gB2,go5,simprocAttr,h0,h1,h7,h8,hlt,hj0,Qo,hat,hx',hw];refine ih _ _ ⟨h0,h1,h7,rfl,λi h h2=>?_⟩;rcases Nat.lt_or_eq_of_le (Nat.le_of_lt_succ h)with h|rfl
   ·exact hall i h h2
   ·exact hx
 ·obtain⟨h0,h1,h7,h8,hall⟩:=hI;refine Ae dc330l0.eq_1 ?_;have e:=firstS_no (λi h=>hall i h h);simp only[↓go1,gB2,go5,simprocAttr,h7,h8,Q6];rw[e]
  all_goals first|rfl|exact⟨rfl,rfl⟩|simp[*]
def S236:Summs:=AF [(330,Ac R330)]
def R236:List D->Option D:=RF S236 dc236 [.t 4] 9
def ko236:(Ac R236).ok Qa 236:=AH fn236 (Ab ko330 Ad)
def R236_eq{nl:Bool}{l:List Bs}(n:Bs)(hl:l.length<=100000):R236 [.slice nl [] (Ay l),.str n]=some (.bool (hasSt l n)):=by
 refine AG (Qb rfl) ?_;unfold dc236;have h330:=R330_eq (nl:=nl) n hl;have e:=hasSt_first l n;generalize Be (l.map λx=>decide (n=x))=i at *;simp only[↓go1,gB2,go5,simprocAttr,An S236 330,h330];rw[←e]
 all_goals first|rfl|exact⟨rfl,rfl⟩|simp[*]
def BT(l:List Bs):List Bs:=l.filterMap λs=>if(Cx s).2=0∧(Cx s).1.1=1 then some (Cx s).1.2.1 else none
def pathsL_snoc(l:List Bs)(s:Bs):BT (l++[s])=BT l++if(Cx s).2=0∧(Cx s).1.1=1 then [(Cx s).1.2.1]else []:=by
 simp only[BT,List.filterMap_append,Zw,List.filterMap_nil];congr 1;split
 ·rename_i h;split at h
  ·cases h
  ·rename_i h2;rw[if_neg h2]
 ·rename_i h;split at h
  ·rename_i h2;rw[if_pos h2];simp only[Qc]at h;rw[h]
  ·cases h
def Gx(e:Nat)(fr:Id)(m:Mem)(c:Nat)(nl:Bool)(t:Id):Prop:=(nl=true∧t=[])∨(nl=false∧∃k,t=k::fr∧k<c∧m t 0=some (.tok (e+1)))
def Gx.more{e:Nat}{fr:Id}{m:Mem}{c c':Nat}{nl:Bool}{t:Id}(h:Gx e fr m c nl t)(hc:c<=c'):Gx e fr m c' nl t:=by
 rcases h with h|⟨h1,k,h2,h3,h4⟩
 ·exact .inl h
 ·exact .inr ⟨h1,k,h2,by omega,h4⟩
def Gx.put{e:Nat}{fr:Id}{m:Mem}{c:Nat}{nl:Bool}{t:Id}{k o:Nat}{ds:List D}(h:Gx e fr m c nl t)(hk:c<=k):Gx e fr (m.put (k::fr) o ds) c nl t:=by
 rcases h with h|⟨h1,q,h2,h3,h4⟩
 ·exact .inl h
 ·refine .inr ⟨h1,q,h2,h3,?_⟩;rw[Mem.put_other]
  ·exact h4
  ·rw[h2];simp;omega
def Gx.grow{e:Nat}{fr:Id}{m:Mem}{c:Nat}{nl:Bool}{t:Id}{xs:List D}(h:Gx e fr m c nl t):Grow m e (.slice nl t xs):=by
 rcases h with h|⟨h1,q,h2,h3,h4⟩
 ·exact .inl h.1
 ·exact .inr ⟨h4,by rw[h2];simp⟩
def Gx.app{e:Nat}{fr:Id}{m:Mem}{c' k:Nat}{nl:Bool}{t:Id}{xs:List D}(hk:k<c'):Gx e fr (Upd.app m (Bi e (k::fr) (.slice nl t xs))) c' false (k::fr):=
 .inr ⟨rfl,k,rfl,hk,by rw[C7,if_pos ⟨rfl,rfl⟩]⟩
def Wt.own{i fr t0 t:Id}{m0 m:Mem}{nl0:Bool}{w:Wb}{o:Oc}{e c k:Nat}{nl:Bool}{t':Id}{xs:List D}(h:Wt i fr m0 nl0 t0 m w o t)(hfr:∀j x,fr<:+j->m0 j x=none)(hni:∀k,(i=k::fr)=False)(hG:Gx e fr m c nl t'):Wt i fr m0 nl0 t0 (Upd.app m (Bi e (k::fr) (.slice nl t' xs))) w o t:=by
 rcases hG with ⟨rfl,_⟩|⟨rfl,q,rfl,_,_⟩
 ·exact h.put hfr hni
 ·exact(h.put hfr hni).put hfr hni
def S62(G:List D->Option D):Summs:=AF [(128,Ac R128),(132,Ac R132),(133,wQ W133),(38,Ac R38),(134,Ac G),(55,wQ W55)]
def W62(G:List D->Option D):Wb->Oc->List D->Option WY:=RW (S62 G) dc62 [] 72
def ko62{G:List D->Option D}(h:(Ac G).ok Qa 134):(wQ (W62 G)).ok Qa 62:=Df fn62 (Ab ko128 (Ab ko132 (Ab ko133 (Ab ko38 (Ab h (Ab ko55 Ad))))))
def W62_need(G:List D->Option D)(w:Wb)(o:Oc)(o2:Oc)(ol:Option (List Nat))(ho:o.nl=true->o.ops=[])(fnl:Bool)(found:List Bs)(hp:w.a.pa.length<=1000000)(h132:R132 [.agg (kwC w.k),.str ([109,47]++w.a.pa++[47])]=some (.tup [.slice fnl [] (Ay found),.bool false]))(h133:W133 w o [.str ([109,47]++w.a.pa++[47]),.bool true]=some (.tup [],o2,ol)):W62 G w o []=some (.tup [],o2,ol.map (·++[24])):=by
 refine Bd ho ⟨Qb rfl,λh=>CC h133 h,λl h=>CB h133 h,λi m fr t ha hfr hni hni0=>?_⟩;have s128:S62 G 128=some (Ac R128):=rfl;have s132:S62 G 132=some (Ac R132):=rfl;have s133:S62 G 133=some (wQ W133):=rfl;have hW:=Wt.start ha hfr;unfold dc62;have xx:=AS ha.1;have h128:=R128_eq w.a.pa hp;generalize hq1:([109,47]++w.a.pa++[47]:Bs)=q1 at *;generalize ([100,47]++w.a.pa++[47]:Bs)=q2 at *;unfold kwC at h132;have y1:((1:Nat):Int)=1:=rfl;have y2:((2:Nat):Int)=2:=rfl;have ltz:(0:Int)<=0:=Int.le_refl _;simp only[gB1,↓go1,go5,simprocAttr,xx,ltz,Zk,gB3,Aa s128,h128,Aa s132,h132,Ah s133];refine Aw hW hfr hni h133 ⟨_,_,_,_,rfl⟩ (λM c1 c2=>?_);simp only[↓go1,go2,simprocAttr];exact c1.endc ha.2.2
def W62_ok(G:List D->Option D)(w:Wb)(o:Oc)(o2:Oc)(ho:o.nl=true->o.ops=[])(fnl:Bool)(found:List Bs)(hp:w.a.pa.length<=1000000)(h132:R132 [.agg (kwC w.k),.str ([109,47]++w.a.pa++[47])]=some (.tup [.slice fnl [] (Ay found),.bool true]))(hl:found.length<=1000)(hs:∀s∈found,s.length<=1000000)(nn:Bool)(names:List Bs)(h134:∀b,(b=true->BT found=[])->G [.str w.a.pa,.slice b [] (Ay (BT found))]=some (.slice nn [] (Ay names)))(hnn:names.length<=1000)(hnn2:nn=true->names=[])(h55:W55 w o [.agg (ryC (.names nn (names.take 64)))]=some (.tup [],o2,none)):W62 G w o []=some (.tup [],o2,none):=by
 refine Bd ho ⟨Qb rfl,λh=>((EL h55).2.1 rfl),λl h=>(by cases h),λi m fr t ha hfr hni hni0=>?_⟩;have s128:S62 G 128=some (Ac R128):=rfl;have s132:S62 G 132=some (Ac R132):=rfl;have s38:S62 G 38=some (Ac R38):=rfl;have s134:S62 G 134=some (Ac G):=rfl;have s55:S62 G 55=some (wQ W55):=rfl;have hW:=Wt.start ha hfr;unfold dc62;have xx:=AS ha.1;have h128:=R128_eq w.a.pa hp;generalize hq1:([109,47]++w.a.pa++[47]:Bs)=q1 at *;generalize ([100,47]++w.a.pa++[47]:Bs)=q2 at *;unfold kwC at h132;have y1:((1:Nat):Int)=1:=rfl;have y2:((2:Nat):Int)=2:=rfl;have ltz:(0:Int)<=0:=Int.le_refl _;simp only[gB1,↓go1,go5,simprocAttr,xx,ltz,Zk,gB3,Aa s128,h128,Aa s132,h132,A1];refine Bm (n:=found.length) (I:=λj st=>st.s 33= .slice fnl [] (Ay found)∧st.s 34= .int .i64 found.length∧st.s 35= .int .i64 (j:Int)∧st.s 0= .ptr i 0∧∃nl' t',st.s 5= .slice nl' t' (Ay (BT (found.take j)))∧(nl'=true->BT (found.take j)=[])∧Gx 9 fr st.m st.c nl' t'∧Wt i fr m o.nl t st.m w o t) (λj hj ih st g hI=>?_) (λst g hI=>?_) 0 (Qg _) _ _ ⟨rfl,rfl,rfl,rfl,true,[],rfl,λ_=>rfl,.inl ⟨rfl,rfl⟩,hW⟩
 ·obtain⟨st_s,st_m,st_c⟩:=st;obtain⟨h33,h34,h35,hs0,nl',t',h5,hn5,hG,hw⟩:=hI;simp only at h33 h34 h35 hs0 h5 hG hw;refine Ae dc62l0.eq_1 ?_;have hlt:((j:Int)<(found.length:Int))=True:=eq_true (by omega);have hj0:=nJ (j:=j);have hw1:IntKind.i64.wrap ((j:Int)+1)=((j+1:Nat):Int):=by rw[w64 (by omega) (by omega)];omega
  have hat:=D7 (l:=found) (j:=j) hj;have h38:=R38_eq found[j] (hs _ (QC hj));have htk:found.take (j+1)=found.take j++[found[j]]:=QO hj;have hle:(BT (found.take j)).length<=j:=by
   have:=Q7 (λs=>if(Cx s).2=0∧(Cx s).1.1=1 then some (Cx s).1.2.1 else none) (found.take j);rw[Qv]at this;unfold BT;omega
  have hsn:=pathsL_snoc (found.take j) found[j];rw[←htk]at hsn;generalize found[j]=x at *;generalize Cx x=px at *;obtain⟨⟨kk,nm,vv⟩,e⟩:=px;simp only at hsn h38;unfold kyD at h38;by_cases he:e=0
  ·subst he;by_cases hk:kk=1
   ·subst hk;simp only[and_self,if_true]at hsn;simp only[gB1,↓go1,go5,simprocAttr,h33,h34,h35,h5,hlt,hj0,Qo,hat,A1,Aa s38,h38];have hG3:=((hG.put (k:=st_c+1+3+5) (o:=0) (ds:=[.int .u8 0,.str [],.int .i64 0]) (by omega)).put (k:=st_c+1+3+5) (o:=0) (ds:=[.int .u8 1,.str nm,.int .i64 vv]) (by omega)).put (k:=st_c+1+3+8+7+3) (o:=0) (ds:=[.tok 10]) (by omega);have hw3:=((hw.put hfr hni0 (q:=st_c+1+3+5) (p:=0) (ys:=[.int .u8 0,.str [],.int .i64 0])).put hfr hni0 (q:=st_c+1+3+5) (p:=0) (ys:=[.int .u8 1,.str nm,.int .i64 vv])).put hfr hni0 (q:=st_c+1+3+8+7+3) (p:=0) (ys:=[.tok 10]);refine Ao.intro ⟨by omega,rfl,hG3.grow⟩ ?_;rw[BH (λh=>by rw[hn5 h];rfl),rowU_grow];have hw4:=hw3.own (e:=9) (k:=st_c+1+3+8+7+4) (xs:=Ay (BT (found.take j))) hfr hni0 hG3;have hG4:=Gx.app (e:=9) (fr:=fr) (m:=((st_m.put ((st_c+1+3+5)::fr) 0 [D.int .u8 0,.str [],.int .i64 0]).put ((st_c+1+3+5)::fr) 0 [.int .u8 1,.str nm,.int .i64 vv]).put ((st_c+1+3+8+7+3)::fr) 0 [.tok 10]) (k:=st_c+1+3+8+7+4) (c':=st_c+1+3+8+7+5) (nl:=nl') (t:=t') (xs:=Ay (BT (found.take j))) (by omega);simp only[↓go1,go2,simprocAttr,h35,hw1];exact ih _ _ ⟨h33,h34,rfl,hs0,false,(st_c+1+3+8+7+4)::fr,(by rw[hsn];show D.slice _ _ _=_;simp[Ay]),(λh=>by cases h),hG4.more (c':=st_c+1+3+8+7+6+2) (by omega),hw4⟩
   ·rw[if_neg (λh=>hk h.2),Zi]at hsn;simp only[gB1,↓go1,go5,simprocAttr,h33,h34,h35,hlt,hj0,Qo,hat,Aa s38,h38,eq_false hk,hw1];exact ih _ _ ⟨h33,h34,rfl,hs0,nl',t',by rw[hsn];exact h5,by rw[hsn];exact hn5,((hG.put (by omega)).put (by omega)).more (by simp only;omega),(hw.put hfr hni0).put hfr hni0⟩
  ·rw[if_neg (λh=>he h.1),Zi]at hsn;simp only[gB1,↓go1,go5,simprocAttr,h33,h34,h35,hlt,hj0,Qo,hat,Aa s38,h38,eq_false he,hw1];exact ih _ _ ⟨h33,h34,rfl,hs0,nl',t',by rw[hsn];exact h5,by rw[hsn];exact hn5,((hG.put (by omega)).put (by omega)).more (by simp only;omega),(hw.put hfr hni0).put hfr hni0⟩
 ·obtain⟨st_s,st_m,st_c⟩:=st;obtain⟨h33,h34,h35,hs0,nl',t',h5,hn5,hG,hw⟩:=hI;simp only at h33 h34 h35 hs0 h5 hG hw;refine Ae dc62l0.eq_1 ?_;rw[Q1]at h5 hn5;have h134':=h134 nl' hn5;have hat64:List.take 64 (Ay names)=Ay (names.take 64):=(List.map_take ..).symm;have xx:=AS hw.at_.1;have hq:∃q:Int,min (names.length:Int) 64=q∧0<=q∧q<=(names.length:Int)∧q.toNat<=names.length∧List.take q.toNat (Ay names)=Ay (names.take 64):=by
   refine⟨_,rfl,by omega,by omega,by omega,?_⟩;rw[←hat64];by_cases c:names.length<=64
   ·rw[QU (by rw[A1];omega),QU (by rw[A1];omega)]
   ·rw[show(min (names.length:Int) 64).toNat=64 by omega]
  obtain⟨q,hmin,q0,q1',q2',q3⟩:=hq;have hd:D.headSz (Ay names) 1=1:=by cases names<;>rfl
  simp only[ryC]at h55;simp only[↓go1,gB2,go5,simprocAttr,hs0,h34,h35,h5,Q6,xx.2.2.2.2.2.2.2.1,Aa s134,h134',A1,hmin,q0,q1',hd,Q9,q3,Ah s55];refine Aw hw hfr hni h55 ⟨_,_,_,_,rfl⟩ (λM c1 c2=>?_);simp only[↓go1,go2,simprocAttr];exact c1.end0 ha.2.2
def DE(o:Oc)(l:List Bs):Oc:={o with nl:=o.nl&&l.isEmpty,ops:=o.ops++l.map λn=>(2,Bn 3 n 0,[])}
def goneO_op{o:Oc}{l:List Bs}{n:Bs}:(DE o l).op 2 (Bn 3 n 0) []=DE o (l++[n]):=by
 simp[DE,Oc.op]
def goneO_nil{o:Oc}:DE o []=o:=by simp[DE]
def revO(o:Oc)(nl:Bool)(k:List Tk)(gnl:Bool)(gone:List Bs):Oc:={DE (ksO o nl k) gone with rep:=ryT (.names gnl gone)}
def S61(G:List D->Option D):Summs:=AF [(131,Ac G),(54,wQ W54),(123,Ac CL),(122,wQ FH),(55,wQ W55)]
def W61(G:List D->Option D):Wb->Oc->List D->Option WY:=RW (S61 G) dc61 [] 48
def ko61{G:List D->Option D}(h:(Ac G).ok Qa 131):(wQ (W61 G)).ok Qa 61:=Df fn61 (Ab h (Ab ko54 (Ab ko123 (Ab ko122 (Ab ko55 Ad)))))
def W61_fail(G:List D->Option D)(w:Wb)(o:Oc)(o2:Oc)(ol:Option (List Nat))(ho:o.nl=true->o.ops=[])(nl2:Bool)(k2:List Tk)(gnl:Bool)(gone:List Bs)(e:Int)(h131:G [.agg [.slice w.v.nlt [] (Ax w.v.ks)],.str w.a.ot]=some (.tup [.agg [.slice nl2 [] (Ax k2)],.slice gnl [] (Ay gone),.int .i64 e]))(he:e≠0)(h54:W54 w o [.int .i64 e]=some (.tup [],o2,ol)):W61 G w o []=some (.tup [],o2,ol.map (·++[23])):=by
 refine Bd ho ⟨Qb rfl,λh=>CC h54 h,λl h=>CB h54 h,λi m fr t ha hfr hni hni0=>?_⟩;have s131:S61 G 131=some (Ac G):=rfl;have s54:S61 G 54=some (wQ W54):=rfl;have hW:=Wt.start ha hfr;unfold dc61;have xx:=AS ha.1;simp only[gB1,↓go1,go5,simprocAttr,xx,Aa s131,h131];refine Ao.intro ?_ ?_
 ·intro pp hpp l hl;simp only[Qh,Qm,or_false]at hpp;rcases hpp with rfl|rfl|rfl|rfl
  ·exact AA hl
  ·have hl1:l.1=15::fr:=AE hl;refine⟨λh=>?_,λh=>AA h⟩;change l∈Ai i _ 1 at h;exact(hni0 15).mp ((AU h).symm.trans hl1)
  ·have hl1:l.1=15::fr:=AE hl;refine⟨λh=>?_,λh=>AA h⟩;change l∈Ai i _ 1 at h;exact(hni0 15).mp ((AU h).symm.trans hl1)
  ·have hl1:l.1=15::fr:=AE hl;exact⟨λh=>AA h,λh=>AA h⟩
 simp only[↓go1,gB2,go5,simprocAttr,eq_false he,Ah s54];refine Aw ((hW.put hfr hni0).put hfr hni0) hfr hni h54 ⟨_,_,_,_,rfl⟩ (λM c1 c2=>?_);simp only[↓go1,go2,simprocAttr];exact c1.endc ha.2.2
def W61_ok(G:List D->Option D)(w:Wb)(o:Oc)(nl2:Bool)(k2:List Tk)(gnl:Bool)(gone:List Bs)(h131:G [.agg [.slice w.v.nlt [] (Ax w.v.ks)],.str w.a.ot]=some (.tup [.agg [.slice nl2 [] (Ax k2)],.slice gnl [] (Ay gone),.int .i64 0]))(h0:Oc0 o)(hg:gone≠[])(hl:gone.length<=900)(hs:∀s∈gone,s.length<=1000000)(hgn:gnl=true->gone=[]):W61 G w o []=some (.tup [],revO o nl2 k2 gnl gone,some ([11,28+10*gone.length])):=by
 refine Bd (λ_=>h0.ops) ⟨Qb rfl,λh=>(by cases h),λl h=>(by simp only[Qc]at h;subst h;exact⟨by cases gone with|nil=>exact absurd rfl hg|cons a r=>simp[revO,DE],by simp⟩),λi m fr t ha hfr hni hni0=>?_⟩;have s131:S61 G 131=some (Ac G):=rfl;have s123:S61 G 123=some (Ac CL):=rfl;have s122:S61 G 122=some (wQ FH):=rfl;have s55:S61 G 55=some (wQ W55):=rfl;have hW:=Wt.start ha hfr;unfold dc61;have xx:=AS ha.1;have h55:=GF w (DE (ksO o nl2 k2) gone) (.names gnl gone) (λh=>by
  simp only[DE,Qu,Zm]at h;exact absurd h.2 hg) (by show gone.length<=1000;omega) hgn
 simp only[ryC]at h55;have hks:(ksO o nl2 k2).nl=o.nl∧(ksO o nl2 k2).ops=[]:=⟨rfl,h0.ops⟩;simp only[gB1,↓go1,go5,simprocAttr,xx,Aa s131,h131];refine Ao.intro ?_ ?_
 ·intro pp hpp l hl;simp only[Qh,Qm,or_false]at hpp;rcases hpp with rfl|rfl|rfl|rfl
  ·exact AA hl
  ·have hl1:l.1=15::fr:=AE hl;refine⟨λh=>?_,λh=>AA h⟩;change l∈Ai i _ 1 at h;exact(hni0 15).mp ((AU h).symm.trans hl1)
  ·have hl1:l.1=15::fr:=AE hl;refine⟨λh=>?_,λh=>AA h⟩;change l∈Ai i _ 1 at h;exact(hni0 15).mp ((AU h).symm.trans hl1)
  ·have hl1:l.1=15::fr:=AE hl;exact⟨λh=>AA h,λh=>AA h⟩
 simp only[gB1,↓go1,go5,simprocAttr,xx,hni0,A1];refine Bm (n:=gone.length) (I:=λj st=>st.s 33= .slice gnl [] (Ay gone)∧st.s 34= .int .i64 gone.length∧st.s 35= .int .i64 (j:Int)∧st.s 0= .ptr i 0∧st.s 3= .slice gnl [] (Ay gone)∧st.c=31+10*j∧Wt i fr m o.nl t st.m w (DE (ksO o nl2 k2) (gone.take j)) (if j=0 then t else [11,28+10*j]++fr)) (λj hj ih st g hI=>?_) (λst g hI=>?_) 0 (Qg _) _ _ ⟨rfl,rfl,rfl,rfl,rfl,rfl,?_⟩
 ·obtain⟨st_s,st_m,st_c⟩:=st;obtain⟨h33,h34,h35,hs0,h3,hc,hw⟩:=hI;simp only at h33 h34 h35 hs0 h3 hc hw;refine Ae dc61l0.eq_1 ?_;have hlt:((j:Int)<(gone.length:Int))=True:=eq_true (by omega);have hj0:=nJ (j:=j);have hat:=D7 (l:=gone) (j:=j) hj;have hw1:IntKind.i64.wrap ((j:Int)+1)=((j+1:Nat):Int):=by rw[w64 (by omega) (by omega)];omega
  have h123:=CP 3 0 gone[j] (hs _ (QC hj));have hn1:(DE (ksO o nl2 k2) (gone.take j)).nl=true->(DE (ksO o nl2 k2) (gone.take j)).ops=[]:=λh=>by
   simp only[DE,Qu,Zm]at h ⊢;rw[hks.2,h.2];rfl
  have hn2:(DE (ksO o nl2 k2) (gone.take j)).ops.length<=1000:=by simp[DE,hks.2];omega
  have h122:=DK w (DE (ksO o nl2 k2) (gone.take j)) 2 (Bn 3 gone[j] 0) [] hn1 hn2;rw[goneO_op,←QO hj]at h122;simp only[↓go1,gB2,go5,simprocAttr,hs0,h33,h34,h35,hlt,hj0,Qo,hat,Aa s123,h123,Ah s122];refine Aw hw hfr hni h122 ⟨_,_,_,_,rfl⟩ (λM c1 c2=>?_);have e:nameW (if j=0 then t else [11,28+10*j]++fr) ((st_c+1+3+3)::fr) (some [11])=(if j+1=0 then t else [11,28+10*(j+1)]++fr):=by
   rw[if_neg (Nat.succ_ne_zero j)];show [11]++_::fr=_;rw[show st_c+1+3+3=28+10*(j+1)by omega];rfl
  rw[e]at c1;simp only[↓go1,go2,simprocAttr,h35,hw1];exact ih _ _ ⟨h33,h34,rfl,hs0,h3,by simp only;omega,c1⟩
 ·obtain⟨st_s,st_m,st_c⟩:=st;obtain⟨h33,h34,h35,hs0,h3,hc,hw⟩:=hI;simp only at h33 h34 h35 hs0 h3 hc hw;refine Ae dc61l0.eq_1 ?_;have hne:gone.length≠0:=λh=>hg (List.length_eq_zero_iff.1 h)
  rw[Q1,if_neg hne]at hw;simp only[↓go1,gB2,go5,simprocAttr,hs0,h34,h35,h3,Q6,Ah s55];refine Aw hw hfr hni h55 ⟨_,_,_,_,rfl⟩ (λM c1 c2=>?_);simp only[↓go1,go2,simprocAttr];exact c1.endl (l:=[11,28+10*gone.length]) (by simp)
 ·simp only[Zs,goneO_nil,if_true];exact(((hW.put hfr hni0).put hfr hni0).cellp (p:=29) (ys:=[.slice nl2 [] (Ax k2)]) (o':=ksO o nl2 k2) (Qb rfl) rfl rfl rfl)
def S19(G1 G2:List D->Option D):Summs:=AF [(25,Ac F25),(54,wQ W54),(55,wQ W55),(56,wQ W56),(57,wQ W57),(58,wQ W58),(59,wQ W59),(60,wQ W60),(61,wQ (W61 G1)),(62,wQ (W62 G2)),(63,wQ W63),(64,wQ W64)]
def R19(G1 G2:List D->Option D):List D->Option D:=RF (S19 G1 G2) dc19 [.cell (some 9) 6] 88
def ko19{G1 G2:List D->Option D}(h1:(Ac G1).ok Qa 131)(h2:(Ac G2).ok Qa 134):(Ac (R19 G1 G2)).ok Qa 19:=AH fn19 (Ab ok25 (Ab ko54 (Ab ko55 (Ab ko56 (Ab ko57 (Ab ko58 (Ab ko59 (Ab ko60 (Ab (ko61 h1) (Ab (ko62 h2) (Ab ko63 (Ab ko64 Ad))))))))))))
def oc0(v:Vw):Oc:=⟨[],false,[],true,[],v⟩
def ocU(o:Oc):List D:=[.str o.need,.bool o.li,.str o.rep,.slice o.nl [] (Da o.ops)]++vwC o.vw
def upd_at{m:Mem}{i:Id}{w:Wb}{o o':Oc}{k:Nat}{d:D}{ol:Option (List Nat)}(ho:o.nl=true)(hi:∀l,i≠l++[k]):Ag (Upd.app m (updW i w o [] [k] (d,o',ol))) i 0 30=some (wkC w o' (nameW [] [k] ol)):=by
 cases ol with
 |none=>exact rdC_same' (CM _ _ _)
 |some l=>
  show Ag _ i 0 30=some (wkC w o' (l++[k]));rw[←rdC_same' (m:=m) (i:=i) (CM w o' (l++[k]))];refine BC (λq hq=>?_);have hq1:q.1=i:=AU hq;show Upd.app (m.put i 0 (wkC w o' (l++[k]))) (Bi 107 (l++[k]) (.slice o.nl [] (Da o.ops))) q.1 q.2=_;rw[F9,hq1,if_neg (λe=>hi l e.1),if_neg (λe=>by rw[ho]at e;cases e.1)]
def upd_oth{m:Mem}{i j:Id}{w:Wb}{o o':Oc}{k x:Nat}{d:D}{ol:Option (List Nat)}(ho:o.nl=true)(hi:∀l,j≠l++[k])(hj:j≠i):Upd.app m (updW i w o [] [k] (d,o',ol)) j x=m j x:=by
 cases ol with
 |none=>exact Mem.put_other hj
 |some l=>
  show Upd.app (m.put i 0 (wkC w o' (l++[k]))) (Bi 107 (l++[k]) (.slice o.nl [] (Da o.ops))) j x=_;rw[F9,if_neg (λe=>hi l e.1),if_neg (λe=>by rw[ho]at e;cases e.1),Mem.put_other hj]
def one_ne{a k:Nat}(h:a≠k):∀l:List Nat,([a]:Id)≠l++[k]:=λl e=>h (by have:=congrArg List.getLast? e;simpa using this)
def got_dec{i:Id}{m:Mem}{w:Wb}{o o':Oc}{rest:List D}{d:D}{ol:Option (List Nat)}{F:Wb->Oc->List D->Option WY}{S:Summs}{c k n:Nat}{ops l:List DOper}{s:Nat->D}{dst:Option Nat}{K:Nat->(Nat->D)->Mem->Prop}{g}
  (hF:F w o rest=some (d,o',ol)) (ha:atW m i (w,o,[])) (ho:o.nl=true) (hi:∀l,i≠l++[n])
  (h:∀M,Ag M i 0 30=some (wkC w o' (nameW [] [n] ol))->(∀j x,(∀l,j≠l++[n])->j≠i->M j x=m j x)->FP S [] c ops l k (BS s dst d) M K):
  Got ((wQ F).ex (.ptr i 0::rest) m [n]) (λx=>rowU S [] c ops l k s dst m K x.1 x.2) g:=
 got_w ha hF (h _ (upd_at ho hi) (λ_ _ h1 h2=>upd_oth ho h1 h2))
inductive MO (G1 G2:List D->Option D) (v:Vw):Int->Oc->List D->(Wb->Oc->List D->Option WY)->Prop
 |o1:MO G1 G2 v 1 (oc0 v) [.agg (ryC (.state v.se))] W55
 |o2:MO G1 G2 v 2 {oc0 v with vw:={v with se:=false}} [] W56
 |o3:MO G1 G2 v 3 {oc0 v with vw:={v with se:=true}} [] W56
 |o4:MO G1 G2 v 4 (oc0 v) [] W57
 |o5:MO G1 G2 v 5 (oc0 v) [] W58
 |o6:MO G1 G2 v 6 (oc0 v) [] W59
 |o7:MO G1 G2 v 7 (oc0 v) [] W60
 |o8:MO G1 G2 v 8 (oc0 v) [] (W61 G1)
 |o17:MO G1 G2 v 17 (oc0 v) [] (W62 G2)
 |o9:MO G1 G2 v 9 (oc0 v) [] W63
 |o18:MO G1 G2 v 18 (oc0 v) [] W63
 |o10:MO G1 G2 v 10 (oc0 v) [] W64
 |o11:MO G1 G2 v 11 (oc0 v) [] W64
 |o12:MO G1 G2 v 12 (oc0 v) [] W64
 |o13:MO G1 G2 v 13 (oc0 v) [] W64
 |o14:MO G1 G2 v 14 (oc0 v) [] W64
 |o15:MO G1 G2 v 15 (oc0 v) [] W64
 |o16:MO G1 G2 v 16 (oc0 v) [] W64
def Bv{G1 G2:List D->Option D}{v:Vw}{op:Int}{oc:Oc}{rest:List D}{W:Wb->Oc->List D->Option WY}(hM:MO G1 G2 v op oc rest W)(a:Ak)(k:Kn)(hop:a.op=op)(h25:F25 [vwD v,akD a]=some (.int .i64 0))(o2:Oc)(ol:Option (List Nat))(hm:W ⟨v,a,k⟩ oc rest=some (.tup [],o2,ol)):R19 G1 G2 [vwD v,akD a,.agg (kwC k)]=some (.agg (ocU o2)):=by
 refine AG (Qb rfl) ?_;have s25:S19 G1 G2 25=some (Ac F25):=rfl;have s55:S19 G1 G2 55=some (wQ W55):=rfl;have s56:S19 G1 G2 56=some (wQ W56):=rfl;have s57:S19 G1 G2 57=some (wQ W57):=rfl;have s58:S19 G1 G2 58=some (wQ W58):=rfl;have s59:S19 G1 G2 59=some (wQ W59):=rfl;have s60:S19 G1 G2 60=some (wQ W60):=rfl;have s61:S19 G1 G2 61=some (wQ (W61 G1)):=rfl;have s62:S19 G1 G2 62=some (wQ (W62 G2)):=rfl;have s63:S19 G1 G2 63=some (wQ W63):=rfl;have s64:S19 G1 G2 64=some (wQ W64):=rfl;unfold dc19;obtain⟨op,tk,pa,ot,n,cas,fl,nln,ns,da,nlr,rs,key⟩:=a;simp only at hop;subst hop;unfold vwD akD at *;unfold vwC akC kwC at *;cases hM<;>simp only[gB1,↓go1,go5,simprocAttr,Aa s25,h25,Ah s55,Ah s56,Ah s57,Ah s58,Ah s59,Ah s60,Ah s61,Ah s62,Ah s63,Ah s64]
 all_goals
  refine got_dec hm ⟨by first|exact rdC_same' rfl|exact(rd_put (show Ag _ [10] 0 30=some (wkC ⟨v,⟨_,tk,pa,ot,n,cas,fl,nln,ns,da,nlr,rs,key⟩,k⟩ (oc0 v) [])from rdC_same' rfl) (Qb rfl)).trans rfl,rfl,λ_=>rfl⟩ rfl (one_ne (by decide)) (λM c1 c2=>?_);have xx:=AS c1;have c3:∀x,M [3] x=_:=λx=>c2 [3] x (one_ne (by decide)) (by decide)
  simp only[gB1,↓go1,go5,simprocAttr,xx,c3]
  all_goals first|rfl|exact⟨rfl,rfl⟩|simp[*]
def R19_fail(G1 G2:List D->Option D)(v:Vw)(a:Ak)(k:Kn)(e:Int)(he:e≠0)(h25:F25 [vwD v,akD a]=some (.int .i64 e))(o2:Oc)(ol:Option (List Nat))(hm:W54 ⟨v,a,k⟩ (oc0 v) [.int .i64 e]=some (.tup [],o2,ol)):R19 G1 G2 [vwD v,akD a,.agg (kwC k)]=some (.agg (ocU o2)):=by
 refine AG (Qb rfl) ?_;have s25:S19 G1 G2 25=some (Ac F25):=rfl;have s54:S19 G1 G2 54=some (wQ W54):=rfl;unfold dc19;obtain⟨op,tk,pa,ot,n,cas,fl,nln,ns,da,nlr,rs,key⟩:=a;unfold vwD akD at *;unfold vwC akC kwC at *;simp only[gB1,↓go1,go5,simprocAttr,Aa s25,h25,eq_false he,Ah s54];refine got_dec hm ⟨rdC_same' rfl,rfl,λ_=>rfl⟩ rfl (one_ne (by decide)) (λM c1 c2=>?_);have xx:=AS c1;have c3:∀x,M [3] x=_:=λx=>c2 [3] x (one_ne (by decide)) (by decide)
 simp only[gB1,↓go1,go5,simprocAttr,xx,c3]
 all_goals first|rfl|exact⟨rfl,rfl⟩|simp[*]
def B9(l:List Tk)(s:Bs):List Bs:=(l.filter λt=>decide (t.2.1=s)&&decide (t.1≠s)).map (·.1)
def ED(l:List Tk):Nat->Bs->List Bs
 |0,s=>[s]
 |f+1,s=>s::(B9 l s).flatMap (ED l f)
structure TreeT (l:List Tk) (r:Bs->Nat):Prop where
 up:∀t∈l,r t.2.1<r t.1
 top:∀t∈l,r t.1<=l.length
 one:l.Pairwise λt u=>t.1≠u.1
def TreeT.eq{l:List Tk}{r:Bs->Nat}(h:TreeT l r){t u:Tk}(ht:t∈l)(hu:u∈l)(e:t.1=u.1):t=u:=by
 have h1:=h.one;clear h;induction l with
 |nil=>cases ht
 |cons a l ih=>
  rw[List.pairwise_cons]at h1;rcases Qh.1 ht with ht'|ht'
  ·rcases Qh.1 hu with hu'|hu'
   ·rw[ht',hu']
   ·rw[ht']at e;exact absurd e (h1.1 _ hu')
  ·rcases Qh.1 hu with hu'|hu'
   ·rw[hu']at e;exact absurd e.symm (h1.1 _ ht')
   ·exact ih ht' hu' h1.2
inductive AncT (l:List Tk) (s:Bs):Bs->Prop
 |refl:AncT l s s
 |step (t:Tk):t∈l->AncT l s t.2.1->AncT l s t.1
def AncT.trans{l:List Tk}{a b c:Bs}(h:AncT l a b)(k:AncT l b c):AncT l a c:=by
 induction k with
 |refl=>exact h
 |step t ht _ ih=>exact .step t ht ih
def kid_mem{l:List Tk}{s c:Bs}(h:c∈B9 l s):∃t∈l,t.2.1=s∧t.1=c∧c≠s:=by
 unfold B9 at h;obtain⟨t,ht,rfl⟩:=Qn.1 h;obtain⟨h1,h2⟩:=Zq.1 ht;rw[Qu]at h2;exact⟨t,h1,of_decide_eq_true h2.1,rfl,of_decide_eq_true h2.2⟩
def dfs_anc{l:List Tk}:∀(f:Nat)(s x:Bs),x∈ED l f s->AncT l s x
 |0,s,x,h=>by
  rw[ED,Qy]at h;subst h;exact .refl
 |f+1,s,x,h=>by
  rw[ED]at h;rcases Qh.1 h with rfl|h
  ·exact .refl
  ·obtain⟨c,hc,hx⟩:=Zn.1 h;obtain⟨t,ht,rfl,rfl,_⟩:=kid_mem hc;exact(AncT.step t ht .refl).trans (dfs_anc f _ x hx)
section
variable{l:List Tk}{r:Bs->Nat}(T:TreeT l r)
include T
def anc_rank{s x:Bs}(h:AncT l s x):r s<=r x:=by
 induction h with
 |refl=>exact Qe _
 |step t ht _ ih=>exact QF ih (Nat.le_of_lt (T.up t ht))
def anc_comp{a b x:Bs}(h:AncT l a x)(k:AncT l b x):AncT l a b∨AncT l b a:=by
 induction h with
 |refl=>exact .inr k
 |step t ht h1 ih=>
  generalize e:t.1=y at k;cases k with
  |refl=>subst e;exact .inl (.step t ht h1)
  |step u hu k1=>
   have:=T.eq ht hu e;subst this;exact ih k1
def kid_rank{s c:Bs}(h:c∈B9 l s):r s<r c∧r c<=l.length:=by
 obtain⟨t,ht,rfl,rfl,_⟩:=kid_mem h;exact⟨T.up t ht,T.top t ht⟩
def kid_one{s a b:Bs}(ha:a∈B9 l s)(hb:b∈B9 l s)(h:AncT l a b):a=b:=by
 have h1:=(kid_rank T ha).1;obtain⟨u,hu,hus,rfl,_⟩:=kid_mem hb;generalize e:u.1=y at h;cases h with
 |refl=>rfl
 |step t ht h2=>
  have:=T.eq ht hu e.symm;subst this;have:=anc_rank T h2;rw[hus]at this;omega
def kids_nodup(s:Bs):(B9 l s).Nodup:=by
 unfold B9;have h:=(T.one.filter (λt=>decide (t.2.1=s)&&decide (t.1≠s)));rw[QN];exact List.pairwise_map.2 h
def dfs_nodup:∀(f:Nat)(s:Bs),(ED l f s).Nodup
 |0,s=>by simp[ED]
 |f+1,s=>by
  rw[ED,List.nodup_cons];refine⟨λh=>?_,?_⟩
  ·obtain⟨c,hc,hx⟩:=Zn.1 h;have:=anc_rank T (dfs_anc f c s hx);have:=(kid_rank T hc).1;omega
  ·rw[QN,List.pairwise_flatMap];refine⟨λc _=>QN.1 (dfs_nodup f c),?_⟩;have hk:=QN.1 (kids_nodup T s);refine List.Pairwise.imp_of_mem ?_ hk;intro a b ha hb hne x hx y hy e;subst e;rcases anc_comp T (dfs_anc f a x hx) (dfs_anc f b x hy)with h|h
   ·exact hne (kid_one T ha hb h)
   ·exact hne (kid_one T hb ha h).symm
omit T in
def dfs_mem{f:Nat}{s x:Bs}(h:x∈ED l f s):x∈s::l.map (·.1):=by
 have:=dfs_anc f s x h;cases this with
 |refl=>exact Qp ..
 |step t ht _=>exact Qx _ (Qn.2 ⟨t,ht,rfl⟩)
omit T in
def nodup_len:∀(a b:List Bs),a.Nodup->(∀x∈a,x∈b)->a.length<=b.length
 |[],b,_,_=>Qg _
 |x::a,b,h,k=>by
  rw[List.nodup_cons]at h;have hx:=k x (Qp ..);have:=nodup_len a (b.erase x) h.2 (λy hy=>by
   have hy2:=k y (Qx _ hy);exact(List.mem_erase_of_ne (λ(e:y=x)=>h.1 (by rw[←e];exact hy))).2 hy2)
  rw[List.length_erase_of_mem hx]at this;have h1:0<b.length:=List.length_pos_of_mem hx;rw[QB];omega
def dfs_len(f:Nat)(s:Bs):(ED l f s).length<=l.length+1:=by
 have:=nodup_len _ _ (dfs_nodup T f s) (λx hx=>dfs_mem hx);simpa using this
end
end Go.Vd
namespace Go.Proofs
open Go.Shelf
def lays190_ren:Go.Shelf.Ren:=⟨λ|190=>235|125=>209|258=>329|128=>310|129=>311|302=>373|303=>374|304=>375|305=>376|306=>377|307=>378|308=>379|309=>380|310=>381|333=>401|329=>362|330=>363|334=>402|335=>403|336=>210|344=>411|n=>n,λ|31=>28|9=>9|3=>3|46=>137|0=>0|51=>392|53=>394|4=>4|183=>386|182=>385|131=>178|5=>5|218=>429|222=>433|228=>453|229=>435|n=>n,λ|n=>n⟩
def lays190:Go.Proofs.Lays.n190 Qa lays190_ren:={
 mixed:=by kernel_rfl
 f125:=func209.trans (congrArg some (by kernel_rfl))
 f128:=func310.trans (congrArg some (by kernel_rfl))
 f129:=func311.trans (congrArg some (by kernel_rfl))
 f190:=func235.trans (congrArg some (by kernel_rfl))
 f258:=func329.trans (congrArg some (by kernel_rfl))
 f302:=func373.trans (congrArg some (by kernel_rfl))
 f303:=func374.trans (congrArg some (by kernel_rfl))
 f304:=func375.trans (congrArg some (by kernel_rfl))
 f305:=func376.trans (congrArg some (by kernel_rfl))
 f306:=func377.trans (congrArg some (by kernel_rfl))
 f307:=func378.trans (congrArg some (by kernel_rfl))
 f308:=func379.trans (congrArg some (by kernel_rfl))
 f309:=func380.trans (congrArg some (by kernel_rfl))
 f310:=func381.trans (congrArg some (by kernel_rfl))
 f329:=func362.trans (congrArg some (by kernel_rfl))
 f330:=func363.trans (congrArg some (by kernel_rfl))
 f333:=func401.trans (congrArg some (by kernel_rfl))
 f334:=func402.trans (congrArg some (by kernel_rfl))
 f335:=func403.trans (congrArg some (by kernel_rfl))
 f336:=func210.trans (congrArg some (by kernel_rfl))
 f344:=func411.trans (congrArg some (by kernel_rfl))
 t0:=underlying0
 a0:=isAgg0
 z0:=sizeOf0
 v0:=zeroValue0
 t3:=underlying3
 a3:=isAgg3
 z3:=sizeOf3
 v3:=zeroValue3
 t4:=underlying4
 a4:=isAgg4
 z4:=sizeOf4
 v4:=zeroValue4
 t5:=underlying5
 a5:=isAgg5
 z5:=sizeOf5
 v5:=zeroValue5
 t9:=underlying9
 a9:=isAgg9
 z9:=sizeOf9
 v9:=zeroValue9
 t31:=underlying28
 a31:=isAgg28
 z31:=sizeOf28
 v31:=zeroValue28
 t46:=underlying137
 a46:=isAgg137
 z46:=sizeOf137
 v46:=zeroValue137
 t51:=underlying392
 a51:=isAgg392
 z51:=sizeOf392
 v51:=zeroValue392
 t53:=underlying394
 a53:=isAgg394
 z53:=sizeOf394
 v53:=zeroValue394
 t131:=underlying178
 a131:=isAgg178
 z131:=sizeOf178
 v131:=zeroValue178
 t182:=underlying385
 a182:=isAgg385
 z182:=sizeOf385
 v182:=zeroValue385
 t183:=underlying386
 a183:=isAgg386
 z183:=sizeOf386
 v183:=zeroValue386
 t218:=underlying429
 a218:=isAgg429
 z218:=sizeOf429
 v218:=zeroValue429
 t222:=underlying433
 a222:=isAgg433
 z222:=sizeOf433
 v222:=zeroValue433
 t228:=underlying453
 a228:=isAgg453
 z228:=sizeOf453
 v228:=zeroValue453
 t229:=underlying435
 a229:=isAgg435
 z229:=sizeOf435
 v229:=zeroValue435}
def lays194_ren:Go.Shelf.Ren:=⟨λ|194=>239|n=>n,λ|31=>28|9=>9|3=>3|4=>4|0=>0|n=>n,λ|n=>n⟩
def lays194:Go.Proofs.Lays.n194 Qa lays194_ren:={
 mixed:=by kernel_rfl
 f194:=func239.trans (congrArg some (by kernel_rfl))
 t0:=underlying0
 a0:=isAgg0
 z0:=sizeOf0
 v0:=zeroValue0
 t3:=underlying3
 a3:=isAgg3
 z3:=sizeOf3
 v3:=zeroValue3
 t4:=underlying4
 a4:=isAgg4
 z4:=sizeOf4
 v4:=zeroValue4
 t9:=underlying9
 a9:=isAgg9
 z9:=sizeOf9
 v9:=zeroValue9
 t31:=underlying28
 a31:=isAgg28
 z31:=sizeOf28
 v31:=zeroValue28}
end Go.Proofs
namespace Go.Vd
open Go.Proofs Go.RowKit
def Gh.base(G:Nat->Nat):Gh:={G:=G,G0:=G,dl:=λ_=>none,tb:=λ_=>none}
theorem model_ok {P : Program} {f : FuncId} {F : List D → Option D} (ent : ∃ fn, P.funcs[f]? = some fn ∧ fn.body.isSome = true ∧ (fn.name == "runtime.NumGoroutine") = false)
  (h : ∀ ds r, F ds = some r → ∀ (vs : List Value) (w : World) (G : Nat → Nat), vs.length = ds.length → (∀ (j : Nat) d v, ds[j]? = some d → vs[j]? = some v → Rep w (Gh.base G) d v) → (∀ b, w.heap.size ≤ b → G b = 0) →
   r.calmR = true ∧ Calls P f vs.toArray w fun e w' => ∃ v G', e = .returned v ∧ Below w.heap.size w w' ∧ (∀ b, w'.heap.size ≤ b → G' b = 0) ∧ (∀ b, b < w.heap.size → G' b = G b) ∧ Rep w' (Gh.base G') r v) : (Ac F).ok P f := by
 refine ⟨ent, fun ds m m' fr _ => rfl, ?_⟩
 intro B w0 w m g fr ds vs r u hi hfresh hl hrep hex
 simp only [Ac] at hex
 split at hex
 ·rename_i hcalm
  rw [Qt] at hex
  obtain ⟨r', hr, hex⟩ := hex
  simp only [QL] at hex
  obtain ⟨rfl, rfl⟩ := hex
  have hrep0 : ∀ (j : Nat) d v, (ds.map D.un)[j]? = some d → vs[j]? = some v → Rep w (Gh.base g.G) d v := by
   intro j d v hd hv
   have hc := Zg.1 hcalm d (QE hd)
   rw [QX, Qt] at hd
   obtain ⟨d', hd', rfl⟩ := hd
   exact (hrep j d' v hd' hv).un.calm_to hc (fun _ _ => rfl) (fun _ => Qe _)
  obtain ⟨hcr, hc⟩ := h _ _ hr vs w g.G (by rw [Qk]; exact hl) hrep0 hi.gz
  refine hc.mono ?_
  rintro e w' ⟨v, G', rfl, hb, hz, ho, hR⟩
  have hGeq : ∀ b, (g.glue w G').G b = G' b := by
   intro b
   simp only [Gh.glue]
   split
   ·rename_i hlt; rw [ho b hlt]
   ·rfl
  refine ⟨v, g.glue w G', rfl, hi.glue hb hz, Ext.glue hi.gz hb, ?_, fun i hf _ => hf⟩
  exact hR.calmR_to hcr (fun _ _ => rfl) (fun b => by rw [hGeq]; exact Qe _)
 ·cases hex
def ok_calls{P:Program}{f:FuncId}{F:List D->Option D}(hok:(Ac F).ok P f){ds:List D}{r:D}(hF:F ds=some r)(hcalm:ds.all D.calm=true)(hun:ds.map D.un=ds){vs:List Value}{w:World}{G:Nat->Nat}
  (hl:vs.length=ds.length) (hrep:∀(j:Nat) d v,ds[j]?=some d->vs[j]?=some v->Rep w (Gh.base G) d v) (hgz:∀b,w.heap.size<=b->G b=0):
  Calls P f vs.toArray w λe w'=>∃v g',e= .returned v∧Below w.heap.size w w'∧Rep w' g' r v:=by
 have hi0:InvM P w.heap.size w (λ_ _=>none) w (Gh.base G):=
  ⟨Below.refl _ _,Qe _,hgz,λ_ _=>rfl,λi b h=>by simp[Gh.base]at h,λi i' b h=>by simp[Gh.base]at h,λi o d h=>by simp at h,λi e h=>by simp at h,λi i' e e' b x x' h=>by simp at h,λi s p h=>by simp at h,λi i' s p s' p' b x x' h=>by simp at h⟩
 refine(hok.run (fr:=[0]) (ds:=ds) (r:=r) (u:=[]) hi0 (λi _=>⟨λ_=>rfl,rfl,rfl⟩) hl hrep ?_).mono ?_
 ·simp only[Ac];rw[hun,if_pos hcalm,hF];rfl
 ·rintro e w' ⟨v,g',rfl,hs⟩;exact⟨v,g',rfl,hs.inv.below,hs.rep⟩
def plain_calls{P:Program}{f:FuncId}{F:List D->Option D}(hok:(Ac F).ok P f){ds:List D}{r:D}(hF:F ds=some r)(hp:ds.all (λd=>match d with| .str _| .int _ _| .bool _=>true|_=>false)=true)(w:World):
  Calls P f (ds.map plV).toArray w λe w'=>∃v g',e= .returned v∧Below w.heap.size w w'∧Rep w' g' r v:=by
 have h1:∀d∈ds,d.calm=true∧d.un=d∧∀w g,Rep w g d (plV d):=by
  intro d hd;have:=Zg.1 hp d hd;cases d with
  |str s=>exact⟨rfl,rfl,λw g=> .str s⟩
  |int k n=>exact⟨rfl,rfl,λw g=> .int k n⟩
  |bool b=>exact⟨rfl,rfl,λw g=> .bool b⟩
  |_=>cases this
 refine ok_calls hok hF (Zg.2 λd hd=>(h1 d hd).1) ?_ (G:=λ_=>0) (by simp) (λj d v hd hv=>?_) (λ_ _=>rfl)
 ·conv=>rhs;rw[←List.map_id ds]
  exact Zx λd hd=>(h1 d hd).2.1
 ·rw[QX,hd,Option.map_some,Qc]at hv;subst hv;exact(h1 d (QE hd)).2.2 _ _
def Gv:∀l:List Bs,flat (Ay l)=Ay l
 |[]=>rfl
 |s::l=>by
  show(D.str s).cells++flat (Ay l)=_;rw[Gv l];rfl
def strs_cells{w:World}{g:Gh}{nl:Bool}{t:Id}{l:List Bs}{v:Value}(h:Rep w g (.slice nl t (Ay l)) v):
  ∃ao c,v= .slice ao l.length c∧∀j s,l[j]?=some s->∃a,ao=some a∧w.cell? (a.add j)=some (encStr s):=by
 rcases h.slice_inv with ⟨_,h0,rfl⟩|⟨_,ad,n,c,sz,vv,rfl,hn,hc,r3,r4,r5,r6,r7,r8,r9⟩
 ·have:l=[]:=by cases l with|nil=>rfl|cons=>cases h0
  subst this;exact⟨none,0,rfl,λj s h=>by simp at h⟩
 ·rw[A1]at hn;subst hn;refine⟨some ad,c,rfl,λj s hj=>⟨ad,rfl,?_⟩⟩;have hlt:j<l.length:=(QI.1 hj).1;have hsz:sz=1:=(r3 (.str s) (Qn.2 ⟨s,QE hj,rfl⟩)).symm;subst hsz;have h6:=r6 j (.str s) (by rw[Gv];simp[Ay,hj]);rw[r4 j (by omega)];cases hv:vv j<;>rw[hv]at h6<;>cases h6;rfl
def own_strs{w:World}{B e n b c:Nat}{ys:List Bs}{g:Gh}(h:w.ownsRow B e 1 (.slice (some ⟨b,0,none⟩) n c) n (ys.map encStr))(hG:n<=g.G b):Rep w g (.slice false [] (Ay ys)) (.slice (some ⟨b,0,none⟩) n c):=by
 have hn:ys.length=n:=by simpa using h.1
 have hcap:n<=c:=by
  rcases h.2 with ⟨h0,_⟩|⟨g',cap,cur,hv,_,_,hnc,_⟩
  ·cases h0
  ·cases hv;exact hnc
 refine .slice [] _ ⟨b,0,none⟩ n c 1 (λj=>encStr (ys.getD j [])) (by rw[A1,hn]) hcap (λd hd=>?_) (λj hj=>?_) (λj hj=>rfl) (λj d hd=>?_) (λ_=>by simp only;omega) (λh=>absurd rfl h) (λd hd=>?_)
 ·obtain⟨s,_,rfl⟩:=Qn.1 hd;rfl
 ·have hj':j<ys.length:=by omega
  exact h.cells rfl j _ (by simp[QR,hj'])
 ·rw[Gv]at hd;simp only[Ay,QX,Qt]at hd;obtain⟨s,hs,rfl⟩:=hd;have:ys.getD j []=s:=by simp[QR,hs]
  rw[this];exact .str s
 ·obtain⟨s,_,rfl⟩:=Qn.1 hd;rfl
def w89t(w:World):Calls Qa 89 #[.bool true] w λe w'=>e= .returned (.tuple #[])∧w'=w:=by
 go_enter func89,ntmps89
 go_wp2
 all_goals go_end0
 all_goals exact⟨rfl,rfl⟩
def w89f(w:World):Calls Qa 89 #[.bool false] w λe w'=>e= .panicked [{v:= .iface 290 (.agg #[]),recovered:=false}]∧w'=w:=by
 go_enter func89,ntmps89
 go_wp2
 exact⟨rfl,rfl,rfl⟩
def catch_idle(p0 p1:Value)(w:World):CallsD Qa 87 #[p0,p1] .returning w λe u' w'=>e= .returned (.tuple #[])∧u'= .returning∧w'=w:=by
 refine callsD_of_wpS func87 rfl λc₀ cs hu=>?_
 apply wpS_seq;apply wpS_region;simp[wpOpsS,go_sem,recoverD,hu,ntmps87,Exit.thenS];refine wpS_cond (t:=false) (by simp[Act.eval,Array.replicate]) ?_;simp only[Bool.false_eq_true,if_false];refine wpS_of_wp (wp_skip ?_);cases c₀;simp_all [bodyPostS,results,results87]
def ok_lies{P:Program}{f:FuncId}{F:List D->Option D}(hok:(Ac F).ok P f){ds:List D}{r:D}(hF:F ds=some r)(hcalm:ds.all D.calm=true)(hun:ds.map D.un=ds)(hr:r.calmR=true){vs:List Value}{w:World}{G:Nat->Nat}
  (hl:vs.length=ds.length) (hrep:∀(j:Nat) d v,ds[j]?=some d->vs[j]?=some v->Rep w (Gh.base G) d v) (hgz:∀b,w.heap.size<=b->G b=0):
  Calls P f vs.toArray w λe w'=>∃v G',e= .returned v∧Below w.heap.size w w'∧(∀b,w'.heap.size<=b->G' b=0)∧(∀b,b<w.heap.size->G' b=G b)∧Rep w' (Gh.base G') r v:=by
 have hi0:InvM P w.heap.size w (λ_ _=>none) w (Gh.base G):=
  ⟨Below.refl _ _,Qe _,hgz,λ_ _=>rfl,λi b h=>by simp[Gh.base]at h,λi i' b h=>by simp[Gh.base]at h,λi o d h=>by simp at h,λi e h=>by simp at h,λi i' e e' b x x' h=>by simp at h,λi s p h=>by simp at h,λi i' s p s' p' b x x' h=>by simp at h⟩
 refine(hok.run (fr:=[0]) (ds:=ds) (r:=r) (u:=[]) hi0 (λi _=>⟨λ_=>rfl,rfl,rfl⟩) hl hrep ?_).mono ?_
 ·simp only[Ac];rw[hun,if_pos hcalm,hF];rfl
 ·rintro e w' ⟨v,g',rfl,hs⟩;refine⟨v,g'.G,rfl,hs.inv.below,hs.inv.gz,λb hb=>?_,hs.rep.calmR_to hr (λ_ _=>rfl) (λ_=>Qe _)⟩;rw[hs.inv.old b hb,hs.ext.G0];rfl
def heap_new2(w:World)(a b:Obj):((w.alloc a).alloc b).heap[w.heap.size]?=some a∧((w.alloc a).alloc b).heap[w.heap.size+1]?=some b:=by
 have h1:=heap_alloc_new w a;have h2:=heap_alloc_new (w.alloc a) b;have hs:(w.alloc a).heap.size=w.heap.size+1:=QA ..;rw[hs]at h2;refine⟨?_,h2⟩;have:w.heap.size<(w.alloc a).heap.size:=by omega
 show((w.alloc a).heap.push b)[w.heap.size]?=_;rw[Array.getElem?_push_lt this,←Array.getElem?_eq_getElem this];exact h1
def z93:Array Value:=#[.int .u8 0,.int .i64 0,.int .i64 0,.string ⟨#[]⟩,.slice none 0 0,.int .i64 0,.bool false,.int .i64 0,.slice none 0 0,.bool false]
def wP(w:World):World:=(w.alloc (.cells z93 93)).alloc (.cells #[.int .i64 0] 75)
def BW{w:World}{g:Nat}{vs:Array Value}{T:TypeId}(h:w.heap[g]?=some (.cells vs T (0,0)))(j:Nat)(v:Value)(hj:vs[j]?=some v):
  w.cell? ⟨g,j,none⟩=some v∧w.frozen? ⟨g,j,none⟩=false∧w.setCell ⟨g,j,none⟩ v=w:=by
 refine⟨by simp[World.cell?,h,hj],by simp[World.frozen?,h],?_⟩;rw[setCell_eq_setRow _ _ _ _ _ _ _ h];have h3:vs.setIfInBounds j v=vs:=by
  apply Zz;intro i;rw[Array.getElem?_setIfInBounds];split
  ·rename_i e;subst e;rw[hj];split<;>simp_all
  ·rfl
 rw[h3,setRow_self _ _ _ _ _ h]
def arr10{vs:Array Value}(h:vs.size=10):∃v0 v1 v2 v3 v4 v5 v6 v7 v8 v9,vs=#[v0,v1,v2,v3,v4,v5,v6,v7,v8,v9]:=by
 obtain⟨l⟩:=vs
 match l,h with
 |[v0,v1,v2,v3,v4,v5,v6,v7,v8,v9],_=>exact⟨v0,v1,v2,v3,v4,v5,v6,v7,v8,v9,rfl⟩
def ten{p:Nat->Value->Prop}{vs:Array Value}{v0 v1 v2 v3 v4 v5 v6 v7 v8 v9:Value}(hv:vs=#[v0,v1,v2,v3,v4,v5,v6,v7,v8,v9])(h:∀j v,vs[j]?=some v->p j v):p 0 v0∧p 1 v1∧p 2 v2∧p 3 v3∧p 4 v4∧p 5 v5∧p 6 v6∧p 7 v7∧p 8 v8∧p 9 v9:=by
 subst hv;exact⟨h 0 _ rfl,h 1 _ rfl,h 2 _ rfl,h 3 _ rfl,h 4 _ rfl,h 5 _ rfl,h 6 _ rfl,h 7 _ rfl,h 8 _ rfl,h 9 _ rfl⟩
def w34o(w w2:World)(s:Bs)(b n:Nat)(Q3 Q4:Array Value->World->Prop)
  (h88:Calls Qa 88 #[encStr s,.string ⟨#[32]⟩] (wP w) λe w'=>e= .returned (.slice (some ⟨b,0,none⟩) (n+1) (n+1))∧w'=w2) (hc:w2.cell? ⟨b,0,none⟩=some (.string ⟨#[111,107]⟩))
  (h91:Calls Qa 91 #[if n=0 then .slice (some ⟨b,0,none⟩) 0 0 else .slice (some ⟨b,1,none⟩) n n] w2 λe w'=>∃vs,e= .returned (.agg vs)∧Q3 vs w')
  (hQ3:∀vs w',Q3 vs w'->vs.size=10∧vs.all (·.oneCell')=true∧w'.heap[w.heap.size]?=some (.cells z93 93 (0,0)))
  (h92:∀vs w3,Q3 vs w3->Calls Qa 92 #[.agg vs] (w3.setRow w.heap.size vs) λe w'=>e= .returned (.int .i64 0)∧Q4 vs w')
  (hQ4:∀vs w',Q4 vs w'->w'.heap[w.heap.size]?=some (.cells vs 93 (0,0))∧w'.heap[w.heap.size+1]?=some (.cells #[.int .i64 0] 75 (0,0))):
  Calls Qa 34 #[encStr s] w λe w'=>∃vs,e= .returned (.tuple #[.agg vs,.int .i64 0])∧Q4 vs w':=by
 have hmf:∀(fn:Go.Fn)(first cap:Array Value)(w:World),(Instr.makeFunc fn first cap).run Qa w= .ok (.func fn first cap) w:=λ_ _ _ _=>rfl
 have HQ:Aside (∀vs w',Q3 vs w'->vs.size=10∧vs.all (·.oneCell')=true∧w'.heap[w.heap.size]?=some (.cells z93 93 (0,0))):=hQ3;have H92:Aside (∀vs w3,Q3 vs w3->Calls Qa 92 #[.agg vs] (w3.setRow w.heap.size vs) λe w'=>e= .returned (.int .i64 0)∧Q4 vs w'):=h92;have HQ4:Aside (∀vs w',Q4 vs w'->w'.heap[w.heap.size]?=some (.cells vs 93 (0,0))∧w'.heap[w.heap.size+1]?=some (.cells #[.int .i64 0] 75 (0,0))):=hQ4;clear hQ3 h92 hQ4;unfold encStr wP z93 at h88;rcases n with _|n
 case' zero=>rw[if_pos rfl]at h91
 case' succ=>rw[if_neg (Nat.succ_ne_zero n)]at h91
 all_goals
  unfold encStr
  go_enter_defers func34,ntmps34
  go_wp2_with (first|(go_at_call 88;refine h88.mono ?_;rintro e w7 ⟨rfl,rfl⟩)|(go_at_call 89;refine(w89t _).mono ?_;rintro e w7 ⟨rfl,rfl⟩))
  refine h91.mono ?_;rintro e w3 ⟨vs,rfl,hq3⟩;have h3:=HQ.out vs w3 hq3;obtain⟨hvs,hv1,hb3⟩:=h3;have hst3:(storeCells ⟨w.heap.size,0,none⟩ vs.toList).run Qa w3= .ok () (w3.setRow w.heap.size vs):=by
   have:=run_storeCells_from (P:=Qa) w.heap.size 93 vs.toList 0 z93 w3 hb3 (by simp[hvs,z93]) (λv hv=>(Za.1 hv1) v (by simpa using hv));simpa[hvs]using this
  have hg3:(w3.setRow w.heap.size vs).heap[w.heap.size]?=some (.cells vs 93 (0,0)):=setRow_heap _ _ _ _ _ _ hb3;have h92:=H92.out vs w3 hq3;clear hb3;obtain⟨v0,v1,v2,v3,v4,v5,v6,v7,v8,v9,hve⟩:=arr10 hvs;have HV:Aside (vs=#[v0,v1,v2,v3,v4,v5,v6,v7,v8,v9]):=hve;obtain⟨a0,a1,a2,a3,a4,a5,a6,a7,a8,a9⟩:=ten (p:=λj v=>(w3.setRow w.heap.size vs).cell? ⟨w.heap.size,j,none⟩=some v) hve λj v h=>(BW hg3 j v h).1
  clear hg3 hve
  go_wp2_with (first|(go_at_call 89;refine(w89t _).mono ?_;rintro e w7 ⟨rfl,rfl⟩))
  rw[←HV.out];refine h92.mono ?_;rintro e w4 ⟨rfl,hq4⟩;have h4:=HQ4.out vs w4 hq4;have hve:=HV.out;obtain⟨b0,b1,b2,b3,b4,b5,b6,b7,b8,b9⟩:=ten (p:=λj v=>(w4.cell? ⟨w.heap.size,j,none⟩=some v)∧(store ⟨w.heap.size,j,none⟩ v).run Qa w4= .ok () w4) hve λj v h=>by
   obtain⟨b1,b2,b3⟩:=BW h4.1 j v h;exact⟨b1,(run_store Qa w4 _ v .plain ((Za.1 hv1) v (Array.mem_of_getElem? h))).trans (by rw[b1,b2,b3];rfl)⟩
  have c11:=BW h4.2 0 (.int .i64 0) rfl;clear h4 hve
  go_wp2_with (first|(go_at_call 89;refine(w89t _).mono ?_;rintro e w7 ⟨rfl,rfl⟩))
  refine leaves_cons (f:=87) (args:=#[.pointer (some ⟨w.heap.size,0,none⟩),.pointer (some ⟨w.heap.size+1,0,none⟩)]) (by simp) (by simp[go_sem]) ?_;refine(catch_idle _ _ _).mono ?_;rintro e u' w'' ⟨rfl,rfl,rfl⟩;refine⟨.tuple #[.agg #[v0,v1,v2,v3,v4,v5,v6,v7,v8,v9],.int .i64 0],?_,vs,by rw[HV.out],hq4⟩;simp[results,results34,go_sem,b0,b1,b2,b3,b4,b5,b6,b7,b8,b9,c11]
def catch_pan(g:Nat)(pv:Value)(w:World)(hb:w.heap[g]?=some (.cells z93 93 (0,0)))(hb2:w.heap[g+1]?=some (.cells #[.int .i64 0] 75 (0,0))):
  CallsD Qa 87 #[.pointer (some ⟨g,0,none⟩),.pointer (some ⟨g+1,0,none⟩)] (.panicking [{v:= .iface 290 pv,recovered:=false}]) w λe u' w'=>
   e= .returned (.tuple #[])∧u'= .panicking [{v:= .iface 290 pv,recovered:=true}]∧w'=w.setCell ⟨g+1,0,none⟩ (.int .i64 4):=by
 obtain⟨c0,c1,c2,c3,c4,c5,c6,c7,c8,c9⟩:=ten rfl λj v hj=>BW hb j v hj
 have c10:=(BW hb2 0 (.int .i64 0) rfl).1;have c11:=(BW hb2 0 (.int .i64 0) rfl).2.1;refine callsD_of_wpS func87 rfl λc₀ cs hu=>?_
 apply wpS_seq;apply wpS_region;simp[wpOpsS,go_sem,recoverD,hu,ntmps87,Exit.thenS];refine wpS_cond (t:=true) (by simp[Act.eval,Array.replicate]) ?_;simp only[if_true];apply wpS_region;simp[wpOpsS,go_sem,c0,c1,c2,c3,c4,c5,c6,c7,c8,c9,c10,c11,bodyPostS,results,results87]
def w34z(w w2:World)(b:Nat)
  (h88:Calls Qa 88 #[.string ⟨#[]⟩,.string ⟨#[32]⟩] (wP w) λe w'=>e= .returned (.slice (some ⟨b,0,none⟩) 1 1)∧w'=w2) (hc:w2.cell? ⟨b,0,none⟩=some (.string ⟨#[]⟩)) (hb:w2.heap[w.heap.size]?=some (.cells z93 93 (0,0))) (hb2:w2.heap[w.heap.size+1]?=some (.cells #[.int .i64 0] 75 (0,0))):
  Calls Qa 34 #[.string ⟨#[]⟩] w λe w'=>e= .returned (.tuple #[.agg z93,.int .i64 4])∧w'=w2.setCell ⟨w.heap.size+1,0,none⟩ (.int .i64 4):=by
 have hmf:∀(fn:Go.Fn)(first cap:Array Value)(w:World),(Instr.makeFunc fn first cap).run Qa w= .ok (.func fn first cap) w:=λ_ _ _ _=>rfl
 have HB:Aside (w2.heap[w.heap.size]?=some (.cells z93 93 (0,0))∧w2.heap[w.heap.size+1]?=some (.cells #[.int .i64 0] 75 (0,0))):=⟨hb,hb2⟩;clear hb hb2;unfold wP z93 at h88
 go_enter_defers func34,ntmps34
 go_wp2_with (first|(go_at_call 88;refine h88.mono ?_;rintro e w3 ⟨rfl,rfl⟩)|(go_at_call 89;refine(w89f _).mono ?_;rintro e w3 ⟨rfl,rfl⟩))
 refine leaves_cons (f:=87) (args:=#[.pointer (some ⟨w.heap.size,0,none⟩),.pointer (some ⟨w.heap.size+1,0,none⟩)]) (by simp) (by simp[go_sem]) ?_;refine(catch_pan _ _ _ HB.out.1 HB.out.2).mono ?_;rintro e u' w'' ⟨rfl,rfl,rfl⟩;obtain⟨c0,c1,c2,c3,c4,c5,c6,c7,c8,c9⟩:=ten rfl λj v hj=>(BW HB.out.1 j v hj).1
 have c10:=BW HB.out.2 0 (.int .i64 0) rfl;simp[Leaves,settle,results,results34,go_sem,c0,c1,c2,c3,c4,c5,c6,c7,c8,c9,c10.1,z93]
def f93(e:Int):Array Value:=#[.int .u8 0,.int .i64 e,.int .i64 0,.string ⟨#[]⟩,.slice none 0 0,.int .i64 0,.bool false,.int .i64 0,.slice none 0 0,.bool false]
def w34f(w w2:World)(s:Bs)(b:Nat)(e:Int)(nb:ByteArray)(Q3 Q4:World->Prop)
  (h88:Calls Qa 88 #[encStr s,.string ⟨#[32]⟩] (wP w) λe w'=>e= .returned (.slice (some ⟨b,0,none⟩) 2 2)∧w'=w2) (hc:w2.cell? ⟨b,0,none⟩=some (.string ⟨#[101,114,114,111,114]⟩)) (hc1:w2.cell? ⟨b,1,none⟩=some (.string nb))
  (h90:Calls Qa 90 #[.string nb] w2 λe' w'=>e'= .returned (.int .i64 e)∧Q3 w') (hQ3:∀w',Q3 w'->w'.heap[w.heap.size]?=some (.cells z93 93 (0,0)))
  (h92:∀w3,Q3 w3->Calls Qa 92 #[.agg (f93 e)] (w3.setRow w.heap.size (f93 e)) λe w'=>e= .returned (.int .i64 0)∧Q4 w')
  (hQ4:∀w',Q4 w'->w'.heap[w.heap.size]?=some (.cells (f93 e) 93 (0,0))∧w'.heap[w.heap.size+1]?=some (.cells #[.int .i64 0] 75 (0,0))):
  Calls Qa 34 #[encStr s] w λe' w'=>e'= .returned (.tuple #[.agg (f93 e),.int .i64 0])∧Q4 w':=by
 have hmf:∀(fn:Go.Fn)(first cap:Array Value)(w:World),(Instr.makeFunc fn first cap).run Qa w= .ok (.func fn first cap) w:=λ_ _ _ _=>rfl
 have H92:Aside (∀w3,Q3 w3->Calls Qa 92 #[.agg (f93 e)] (w3.setRow w.heap.size (f93 e)) λe w'=>e= .returned (.int .i64 0)∧Q4 w'):=h92;have HQ3:Aside (∀w',Q3 w'->w'.heap[w.heap.size]?=some (.cells z93 93 (0,0))):=hQ3;have HQ4:Aside (∀w',Q4 w'->w'.heap[w.heap.size]?=some (.cells (f93 e) 93 (0,0))∧w'.heap[w.heap.size+1]?=some (.cells #[.int .i64 0] 75 (0,0))):=hQ4;clear hQ3 h92 hQ4;unfold encStr wP z93 at h88;unfold encStr
 go_enter_defers func34,ntmps34
 go_wp2_with (first|(go_at_call 88;refine h88.mono ?_;rintro e w7 ⟨rfl,rfl⟩)|(go_at_call 89;refine(w89t _).mono ?_;rintro e w7 ⟨rfl,rfl⟩))
 refine h90.mono ?_;rintro e' w3 ⟨rfl,hq3⟩;have hb3:=HQ3.out w3 hq3;have hg3:(w3.setRow w.heap.size (f93 e)).heap[w.heap.size]?=some (.cells (f93 e) 93 (0,0)):=setRow_heap _ _ _ _ _ _ hb3;obtain⟨a0,a1,a2,a3,a4,a5,a6,a7,a8,a9⟩:=ten rfl λj v hj=>BW hb3 j v hj
 obtain⟨b0,b1,b2,b3,b4,b5,b6,b7,b8,b9⟩:=ten rfl λj v hj=>BW hg3 j v hj
 have a11:w3.setCell ⟨w.heap.size,1,none⟩ (.int .i64 e)=w3.setRow w.heap.size (f93 e):=setCell_eq_setRow _ _ _ _ _ _ _ hb3;have h92:=H92.out w3 hq3;clear hg3 hb3;generalize w3.setRow w.heap.size (f93 e)=X at *;unfold f93 at h92
 go_wp2_with (first|(go_at_call 89;refine(w89t _).mono ?_;rintro e w7 ⟨rfl,rfl⟩))
 refine h92.mono ?_;rintro e' w4 ⟨rfl,hq4⟩;have h4:=HQ4.out w4 hq4;obtain⟨c0,c1,c2,c3,c4,c5,c6,c7,c8,c9⟩:=ten rfl λj v hj=>BW h4.1 j v hj
 have c11:=BW h4.2 0 (.int .i64 0) rfl;clear h4
 go_wp2_with (first|(go_at_call 89;refine(w89t _).mono ?_;rintro e w7 ⟨rfl,rfl⟩))
 refine leaves_cons (f:=87) (args:=#[.pointer (some ⟨w.heap.size,0,none⟩),.pointer (some ⟨w.heap.size+1,0,none⟩)]) (by simp) (by simp[go_sem]) ?_;refine(catch_idle _ _ _).mono ?_;rintro e' u' w'' ⟨rfl,rfl,rfl⟩;refine⟨.tuple #[.agg (f93 e),.int .i64 0],?_,rfl,hq4⟩;simp[results,results34,go_sem,f93,c0,c1,c2,c3,c4,c5,c6,c7,c8,c9,c11]
def c88(s:Bs)(q:UInt8)(hl:s.length<=1000000)(w:World):
  Calls Qa 88 #[encStr s,.string ⟨#[q]⟩] w λe w'=>e= .returned (.slice (some ⟨w.heap.size,0,none⟩) (splitC q s).length (splitC q s).length)∧w'=w.alloc (.cells ((splitC q s).map encStr).toArray 9):=by
 have hcnt:Lib.countB ⟨s.toArray⟩ ⟨#[q]⟩=s.count q:=Lib.count_one q s;have hpc:(Lib.splitB ⟨#[q]⟩ 0 (s.count q) ⟨s.toArray⟩).map (·.data.toList)=splitC q s:=by
  rw[Lib.splitB_data];exact Go.Proofs.splitK_eq q s.length s (Qe _)
 have hlen:(splitC q s).length=s.count q+1:=by
  rw[←hpc,Qk,←hcnt];exact Lib.splitB_all ⟨#[q]⟩ (Qe 1) 0 _ _ rfl
 have hmap:(splitC q s).map encStr=(Lib.splitB ⟨#[q]⟩ 0 (s.count q) ⟨s.toArray⟩).map Value.string:=by
  rw[←hpc,List.map_map];exact Zx λx _=>rfl
 refine(Go.Proofs.split_space q lays146 (by kernel_rfl) ⟨s.toArray⟩ w (by show s.length<_;omega)).mono ?_;rintro ev w' ⟨rfl,rfl⟩;rw[hcnt,hlen,hmap];exact⟨rfl,rfl⟩
def wS(w:World)(ws:List Bs):World:=(wP w).alloc (.cells (ws.map encStr).toArray 9)
def wP_size(w:World):(wP w).heap.size=w.heap.size+2:=by
 show((w.heap.push _).push _).size=_;rw[QA,QA]
def wS_size(w:World)(ws:List Bs):(wS w ws).heap.size=w.heap.size+3:=by
 show((wP w).heap.push _).size=_;rw[QA,wP_size]
def Ew(w:World)(ws:List Bs):(wS w ws).heap[w.heap.size]?=some (.cells z93 93 (0,0))∧(wS w ws).heap[w.heap.size+1]?=some (.cells #[.int .i64 0] 75 (0,0))∧(wS w ws).heap[w.heap.size+2]?=some (.cells (ws.map encStr).toArray 9 (0,0)):=by
 have h:=heap_new2 w (.cells z93 93) (.cells #[.int .i64 0] 75);have hs:=wP_size w;refine⟨(Below.heap_alloc (wP w) _ _ (by omega)).trans h.1,(Below.heap_alloc (wP w) _ _ (by omega)).trans h.2,?_⟩;have:=heap_alloc_new (wP w) (.cells (ws.map encStr).toArray 9);rw[hs]at this;exact this
def wS_below(w:World)(ws:List Bs):Below w.heap.size w (wS w ws):=((((Below.refl _ _).alloc (Qe _) _).alloc (by show _<=(w.heap.push _).size;rw[QA];omega) _).alloc (by show _<=(wP w).heap.size;rw[wP_size];omega) _)
def wS_cell(w:World)(ws:List Bs)(j:Nat)(s:Bs)(h:ws[j]?=some s):(wS w ws).cell? ⟨w.heap.size+2,j,none⟩=some (encStr s):=by
 simp[World.cell?,(Ew w ws).2.2,h]
def gSp(G:Nat->Nat)(w:World)(n:Nat):Nat->Nat:=λb=>if b=w.heap.size+2 then n else G b
def rep_tail(w:World)(G:Nat->Nat)(w0:Bs)(tail:List Bs):
  Rep (wS w (w0::tail)) (Gh.base (gSp G w (tail.length+1))) (.slice false [] (Ay tail)) (if tail.length=0 then .slice (some ⟨w.heap.size+2,0,none⟩) 0 0 else .slice (some ⟨w.heap.size+2,1,none⟩) tail.length tail.length):=by
 by_cases hn:tail.length=0
 ·rw[if_pos hn];have:tail=[]:=QJ hn;subst this;exact .slice [] _ _ 0 0 1 (λ_=> .nilFunc) rfl (Qe _) (λd hd=>by cases hd) (λj hj=>by omega) (λj hj=>by omega) (λj d hd=>by simp[flat,Ay]at hd) (λh=>by omega) (λh=>absurd rfl h) (λd hd=>by cases hd)
 ·rw[if_neg hn];refine .slice [] _ _ tail.length tail.length 1 (λj=>encStr (tail.getD j [])) (by simp[Ay]) (Qe _) (λd hd=>?_) (λj hj=>?_) (λj hj=>rfl) (λj d hd=>?_) (λ_=>?_) (λh=>absurd rfl h) (λd hd=>?_)
  ·obtain⟨s,_,rfl⟩:=Qn.1 hd;rfl
  ·rw[DU];exact wS_cell w _ (1+j) _ (by rw[Nat.add_comm,Qs,Qd (by omega)];simp[QR,Qd (show j<tail.length by omega)])
  ·rw[Gv]at hd;simp only[Ay,QX,Qt]at hd;obtain⟨s,hs,rfl⟩:=hd;have:tail.getD j []=s:=by simp[QR,hs]
   rw[this];exact .str s
  ·show 1+tail.length*1<=gSp G w (tail.length+1) (w.heap.size+2);unfold gSp;rw[if_pos rfl];omega
  ·obtain⟨s,_,rfl⟩:=Qn.1 hd;rfl
def LeftP(w:World)(G:Nat->Nat)(r:D)(e:Ending)(w':World):Prop:=
 ∃v G',e= .returned v∧Below w.heap.size w w'∧(∀b,w'.heap.size<=b->G' b=0)∧(∀b,b<w.heap.size->G' b=G b)∧Rep w' (Gh.base G') r v
def ryC_calm(y:Ry):(D.agg (ryC y)).calm=true:=by cases y<;>rfl
def ryC_un(y:Ry):(D.agg (ryC y)).un= .agg (ryC y):=by cases y<;>rfl
def ryC_len(y:Ry):(ryC y).length=10:=by cases y<;>rfl
def rep_list{w:World}{g:Gh}(l:List (D×Value))(h:∀p∈l,p.2.oneCell'=true∧Rep w g p.1 p.2):Rep w g (.agg (l.map (·.1))) (.agg (l.map (·.2)).toArray):=by
 refine .agg _ _ (by simp) (λv hv=>?_) (λj d v hd hv=>?_)
 ·obtain⟨p,hp,rfl⟩:=Qn.1 hv;exact(h p hp).1
 ·rw[QX,Qt]at hd hv;obtain⟨p,hp,rfl⟩:=hd;obtain⟨q,hq,rfl⟩:=hv;rw[hp,Qc]at hq;subst hq;exact(h p (QE hp)).2
def rep_f93(w:World)(g:Gh)(e:Int):Rep w g (.agg (ryC (.fail e))) (.agg (f93 e)):=by
 refine rep_list [(.int .u8 0,.int .u8 0),(.int .i64 e,.int .i64 e),(.int .i64 0,.int .i64 0),(.str [],.string ⟨#[]⟩),(.slice true [] [],.slice none 0 0),(.int .i64 0,.int .i64 0),(.bool false,.bool false),(.int .i64 0,.int .i64 0),(.slice true [] [],.slice none 0 0),(.bool false,.bool false)] ?_;simp only[Qi];exact⟨⟨rfl,.int _ _⟩,⟨rfl,.int _ _⟩,⟨rfl,.int _ _⟩,⟨rfl,.str _⟩,⟨rfl,.nils _⟩,⟨rfl,.int _ _⟩,⟨rfl,.bool _⟩,⟨rfl,.int _ _⟩,⟨rfl,.nils _⟩,⟨rfl,.bool _⟩,λ_ h=>nomatch h⟩
def ryQ_E(y:Ry):ryE (ryQ y)=ryE y:=by cases y<;>rfl
def ryQ_ok{y:Ry}(h:ryG y):ryOk (ryQ y):=by
 cases y with
 |about s=>exact QF h.1 (by decide)
 |names nl l=>exact h.1
 |_=>trivial
def ryW_ok{y:Ry}(h:ryS y):ryW y=[111,107]::(ryW y).tail:=by
 cases y with
 |fail e=>exact h.elim
 |state b=>cases b<;>rfl
 |_=>rfl
def sp88{w:World}{s:Bs}{ws:List Bs}(hl:s.length<=1000000)(hs:splitC 32 s=ws):Calls Qa 88 #[encStr s,.string ⟨#[32]⟩] (wP w) λe w'=>e= .returned (.slice (some ⟨w.heap.size+2,0,none⟩) ws.length ws.length)∧w'=wS w ws:=by
 refine(c88 s 32 hl (wP w)).mono ?_;rintro e w' ⟨rfl,rfl⟩;rw[hs,wP_size];exact⟨rfl,rfl⟩
def gSp_gz{G:Nat->Nat}{w:World}{n:Nat}(hz:∀b,w.heap.size<=b->G b=0):(∀b,w.heap.size+3<=b->gSp G w n b=0)∧(∀b,b<w.heap.size+2->gSp G w n b=G b):=
 ⟨λb hb=>by unfold gSp;rw[if_neg (by omega)];exact hz b (by omega),λb hb=>by unfold gSp;rw[if_neg (by omega)]⟩
def stored_rep{w w3:World}{G:Nat->Nat}{d:D}{v:Value}(vs:Array Value)(hr:Rep w3 (Gh.base G) d v)(hc:d.calm=true)(h0:G w.heap.size=0):Rep (w3.setRow w.heap.size vs) (Gh.base G) d v:=
 hr.calm_to hc (λp hp=>Dv _ _ _ _ (λe=>by
  have hp':p.off<G p.block:=hp;rw[e,h0]at hp';omega)) (λ_=>Qe _)
def below_rep{w w':World}{G:Nat->Nat}{d:D}{v:Value}(hr:Rep w (Gh.base G) d v)(hc:d.calm=true)(hz:∀b,w.heap.size<=b->G b=0)(hb:Below w.heap.size w w'):Rep w' (Gh.base G) d v:=
 hr.calm_to hc (λp hp=>by
  have hp':p.off<G p.block:=hp;refine hb.cell ?_;rcases Zj p.block w.heap.size with h|h
  ·exact h
  ·rw[hz _ h]at hp';omega) (λ_=>Qe _)
def p34o(w:World)(G:Nat->Nat)(hz:∀b,w.heap.size<=b->G b=0)(y:Ry)(hG:ryG y)(hS:ryS y)(hE:ryE y=0)(s:Bs)(hl:s.length<=1000000)(hs:splitC 32 s=ryW y):
  Calls Qa 34 #[encStr s] w (LeftP w G (.tup [.agg (ryC (ryQ y)),.int .i64 0])):=by
 have hw:=ryW_ok hS;generalize htl:(ryW y).tail=tail at hw;have h91':=R91_eq y hG hS;rw[htl]at h91';have hcr:=ryC_calm (ryQ y);have hg:=gSp_gz (n:=tail.length+1) hz;have hsz:=wS_size w (ryW y);rw[hw]at hsz;refine(w34o w (wS w ([111,107]::tail)) s (w.heap.size+2) tail.length
  (λvs w3=>∃G3,Below (w.heap.size+3) (wS w ([111,107]::tail)) w3∧(∀b,w3.heap.size<=b->G3 b=0)∧(∀b,b<w.heap.size+3->G3 b=gSp G w (tail.length+1) b)∧Rep w3 (Gh.base G3) (.agg (ryC (ryQ y))) (.agg vs))
  (λvs w4=>∃w3 G3,(Below (w.heap.size+3) (wS w ([111,107]::tail)) w3∧(∀b,w3.heap.size<=b->G3 b=0)∧(∀b,b<w.heap.size+3->G3 b=gSp G w (tail.length+1) b)∧Rep w3 (Gh.base G3) (.agg (ryC (ryQ y))) (.agg vs))∧Below w3.heap.size (w3.setRow w.heap.size vs) w4) ?_ ?_ ?_ ?_ ?_ ?_).mono ?_
 ·have:=sp88 (w:=w) hl (hs.trans hw);simpa using this
 ·exact wS_cell w _ 0 _ rfl
 ·refine(ok_lies ko91 (ds:=[.slice false [] (Ay tail)]) (vs:=[_]) h91' rfl rfl (r:= .agg (ryC (ryQ y))) hcr rfl (λj d v hd hv=>?_) (G:=gSp G w (tail.length+1)) (w:=wS w ([111,107]::tail)) (by rw[hsz];exact hg.1)).mono ?_
  ·match j with
   |0=>
    simp only[Ql,Qc]at hd hv;subst hd hv;exact rep_tail w G _ tail
   |j+1=>simp at hd
  ·rintro e w3 ⟨v,G3,rfl,hb,hz3,ho3,hr⟩;rw[hsz]at hb ho3;cases hr with
   |agg _ vs h1 h2 h3=>exact⟨vs.toArray,rfl,G3,hb,hz3,ho3,.agg _ vs h1 h2 h3⟩
 ·rintro vs w3 ⟨G3,hb,hz3,ho3,hr⟩;refine⟨?_,?_,(hb.block _ (by omega)).trans (Ew w _).1⟩
  ·cases hr with
   |agg _ vs h1 h2 h3=>simp[h1,ryC_len]
  ·cases hr with
   |agg _ vs h1 h2 h3=>simpa using h2
 ·rintro vs w3 ⟨G3,hb,hz3,ho3,hr⟩;have h0:G3 w.heap.size=0:=by rw[ho3 _ (by omega),hg.2 _ (by omega)];exact hz _ (Qe _)
  have h92:=R92_eq (ryQ y) (ryQ_ok hG);rw[ryQ_E,hE]at h92;refine(ok_lies ko92 (ds:=[.agg (ryC (ryQ y))]) (vs:=[.agg vs]) h92 (by simp[hcr]) (by simp[ryC_un]) (r:= .int .i64 0) rfl rfl (λj d v hd hv=>?_) (G:=G3) (w:=w3.setRow w.heap.size vs) (by rw[size_setRow];exact hz3)).mono ?_
  ·match j with
   |0=>
    simp only[Ql,Qc]at hd hv;subst hd hv;exact stored_rep vs hr hcr h0
   |j+1=>simp at hd
  ·rintro e w4 ⟨v,G4,rfl,hb4,_,_,hr4⟩;have:=hr4.int_inv;subst this;rw[size_setRow]at hb4;exact⟨rfl,w3,G3,⟨hb,hz3,ho3,hr⟩,hb4⟩
 ·rintro vs w4 ⟨w3,G3,⟨hb,hz3,ho3,hr⟩,hb4⟩;have hs3:=hb.size;rw[hsz]at hs3;have e1:=(hb.block _ (by omega)).trans (Ew w ([111,107]::tail)).1;have e2:=(hb.block _ (by omega)).trans (Ew w ([111,107]::tail)).2.1;exact⟨(hb4.block _ (by omega)).trans (setRow_heap _ _ _ _ _ _ e1),(hb4.block _ (by omega)).trans ((setRow_other _ _ _ _ (by omega)).trans e2)⟩
 ·rintro e w4 ⟨vs,rfl,w3,G3,⟨hb,hz3,ho3,hr⟩,hb4⟩;have hs3:=hb.size;rw[hsz]at hs3;have h0:G3 w.heap.size=0:=by rw[ho3 _ (by omega),hg.2 _ (by omega)];exact hz _ (Qe _)
  have hbs:Below w.heap.size w (w3.setRow w.heap.size vs):=below_setRow ((wS_below w _).trans (hb.mono (by omega))) (Qe _) vs;have hb4':Below (w3.setRow w.heap.size vs).heap.size (w3.setRow w.heap.size vs) w4:=by rw[size_setRow];exact hb4
  refine⟨_,G3,rfl,hbs.trans (hb4.mono (by omega)),λb h=>hz3 b (by have:=hb4.size;rw[size_setRow]at this;omega),λb h=>?_,?_⟩
  ·rw[ho3 _ (by omega),hg.2 _ (by omega)]
  ·have r1:=below_rep (stored_rep vs hr hcr h0) hcr (by rw[size_setRow];exact hz3) hb4';refine .tup _ [.agg vs,.int .i64 0] rfl (λj d v hd hv=>?_)
   match j with
   |0=>
    simp only[Ql,Qc]at hd hv;subst hd hv;exact r1
   |1=>
    simp only[Ql,Qs,Qc]at hd hv;subst hd hv;exact .int _ _
   |j+2=>simp at hd
def p34f(w:World)(G:Nat->Nat)(hz:∀b,w.heap.size<=b->G b=0)(e:Int)(he:1<=e∧e<=99)(s:Bs)(hl:s.length<=1000000)(hs:splitC 32 s=ryW (.fail e)):
  Calls Qa 34 #[encStr s] w (LeftP w G (.tup [.agg (ryC (.fail e)),.int .i64 0])):=by
 have hg:=gSp_gz (n:=0) hz;have hsz:=wS_size w (ryW (.fail e));have hn:=FA e.toNat (by omega);rw[QP (by omega)]at hn;refine(w34f w (wS w (ryW (.fail e))) s (w.heap.size+2) e ⟨(BZ e.toNat).toArray⟩
  (λw3=>Below (w.heap.size+3) (wS w (ryW (.fail e))) w3)
  (λw4=>∃w3,Below (w.heap.size+3) (wS w (ryW (.fail e))) w3∧Below w3.heap.size (w3.setRow w.heap.size (f93 e)) w4) ?_ ?_ ?_ ?_ ?_ ?_ ?_).mono ?_
 ·exact sp88 (w:=w) hl hs
 ·exact wS_cell w _ 0 _ rfl
 ·exact wS_cell w _ 1 _ rfl
 ·refine(ok_lies ko90 (ds:=[.str (BZ e.toNat)]) (vs:=[encStr (BZ e.toNat)]) hn rfl rfl (r:= .int .i64 e) rfl rfl (λj d v hd hv=>?_) (G:=gSp G w 0) (w:=wS w (ryW (.fail e))) (by rw[hsz];exact hg.1)).mono ?_
  ·match j with
   |0=>
    simp only[Ql,Qc]at hd hv;subst hd hv;exact .str _
   |j+1=>simp at hd
  ·rintro e' w3 ⟨v,G3,rfl,hb,_,_,hr⟩;have:=hr.int_inv;subst this;rw[hsz]at hb;exact⟨rfl,hb⟩
 ·intro w3 hb;exact(hb.block _ (by omega)).trans (Ew w _).1
 ·intro w3 hb;have h92:=R92_eq (.fail e) trivial;rw[show ryE (.fail e)=0 from if_pos he]at h92;have hs3:=hb.size;rw[hsz]at hs3;refine(ok_lies ko92 (ds:=[.agg (ryC (.fail e))]) (vs:=[.agg (f93 e)]) h92 rfl rfl (r:= .int .i64 0) rfl rfl (λj d v hd hv=>?_) (G:=G) (w:=w3.setRow w.heap.size (f93 e)) (by rw[size_setRow];exact λb hb=>hz b (by omega))).mono ?_
  ·match j with
   |0=>
    simp only[Ql,Qc]at hd hv;subst hd hv;exact rep_f93 _ _ e
   |j+1=>simp at hd
  ·rintro e' w4 ⟨v,G4,rfl,hb4,_,_,hr4⟩;have:=hr4.int_inv;subst this;rw[size_setRow]at hb4;exact⟨rfl,w3,hb,hb4⟩
 ·rintro w4 ⟨w3,hb,hb4⟩;have hs3:=hb.size;rw[hsz]at hs3;have e1:=(hb.block _ (by omega)).trans (Ew w (ryW (.fail e))).1;have e2:=(hb.block _ (by omega)).trans (Ew w (ryW (.fail e))).2.1;exact⟨(hb4.block _ (by omega)).trans (setRow_heap _ _ _ _ _ _ e1),(hb4.block _ (by omega)).trans ((setRow_other _ _ _ _ (by omega)).trans e2)⟩
 ·rintro e' w4 ⟨rfl,w3,hb,hb4⟩;have hs3:=hb.size;rw[hsz]at hs3;have hbs:Below w.heap.size w (w3.setRow w.heap.size (f93 e)):=below_setRow ((wS_below w _).trans (hb.mono (by omega))) (Qe _) _;refine⟨_,G,rfl,hbs.trans (hb4.mono (by omega)),λb h=>hz b (by have:=hb4.size;rw[size_setRow]at this;omega),λb h=>rfl,?_⟩;refine .tup _ [.agg (f93 e),.int .i64 0] rfl (λj d v hd hv=>?_)
  match j with
  |0=>
   simp only[Ql,Qc]at hd hv;subst hd hv;exact rep_f93 _ _ e
  |1=>
   simp only[Ql,Qs,Qc]at hd hv;subst hd hv;exact .int _ _
  |j+2=>simp at hd
def p34z(w:World)(G:Nat->Nat)(hz:∀b,w.heap.size<=b->G b=0):
  Calls Qa 34 #[.string ⟨#[]⟩] w (LeftP w G (.tup [.agg (ryC (.fail 0)),.int .i64 4])):=by
 have hsz:=wS_size w [[]];refine(w34z w (wS w [[]]) (w.heap.size+2) (sp88 (w:=w) (s:=[]) (Qg _) rfl) (wS_cell w _ 0 _ rfl) (Ew w _).1 (Ew w _).2.1).mono ?_;rintro e w' ⟨rfl,rfl⟩;refine⟨_,G,rfl,(wS_below w _).setCell (by show w.heap.size<=w.heap.size+1;omega) _,λb hb=>hz b ?_,λb h=>rfl,?_⟩
 ·have:(((wS w [[]]).setCell ⟨w.heap.size+1,0,none⟩ (.int .i64 4)).heap).size=(wS w [[]]).heap.size:=by simp[World.setCell]
  omega
 ·refine .tup _ [.agg z93,.int .i64 4] rfl (λj d v hd hv=>?_)
  match j with
  |0=>
   simp only[Ql,Qc]at hd hv;subst hd hv;exact rep_f93 _ _ 0
  |1=>
   simp only[Ql,Qs,Qc]at hd hv;subst hd hv;exact .int _ _
  |j+2=>simp at hd
inductive Psd:Bs->D->Prop
 |none:Psd [] (.tup [.agg (ryC (.fail 0)),.int .i64 4])
 |fail (e:Int) (s:Bs):1<=e∧e<=99->splitC 32 s=ryW (.fail e)->Psd s (.tup [.agg (ryC (.fail e)),.int .i64 0])
 |ok (y:Ry) (s:Bs):ryG y->ryS y->ryE y=0->splitC 32 s=ryW y->Psd s (.tup [.agg (ryC (ryQ y)),.int .i64 0])
def psd_one{s:Bs}{r r':D}(h:Psd s r)(h':Psd s r'):r=r':=by
 cases h with
 |none=>
  cases h' with
  |none=>rfl
  |fail e _ he hs=>simp[splitC,ryW]at hs
  |ok y _ hg hS hE hs=>
   rw[ryW_ok hS]at hs;simp[splitC]at hs
 |fail e _ he hs=>
  cases h' with
  |none=>simp[splitC,ryW]at hs
  |fail e' _ he' hs'=>
   rw[hs]at hs';simp only[ryW,QW,and_true,true_and]at hs';have h1:=FA e.toNat (by omega);have h2:=FA e'.toNat (by omega);rw[hs',h2]at h1;simp only[Qc,D.int.injEq,true_and]at h1;rw[show e=e' by omega]
  |ok y _ hg hS hE hs'=>
   rw[hs,ryW_ok hS]at hs';simp[ryW]at hs'
 |ok y _ hg hS hE hs=>
  cases h' with
  |none=>
   rw[ryW_ok hS]at hs;simp[splitC]at hs
  |fail e' _ he' hs'=>
   rw[hs',ryW_ok hS]at hs;simp[ryW]at hs
  |ok y' _ hg' hS' hE' hs'=>
   rw[hs]at hs';have h1:=R91_eq y hg hS;rw[hs',R91_eq y' hg' hS']at h1;simp only[Qc,D.agg.injEq]at h1;rw[h1]
open Classical in
def F34:List D->Option D
 |[.str s]=>if h:s.length<=1000000∧∃r,Psd s r then some (Classical.choose h.2)else none
 |_=>none
open Classical in
def F34_eq{s:Bs}{r:D}(hl:s.length<=1000000)(h:Psd s r):F34 [.str s]=some r:=by
 have hx:s.length<=1000000∧∃r,Psd s r:=⟨hl,r,h⟩;show(if h:_ then _ else _)=_;rw[dif_pos hx,psd_one (Classical.choose_spec hx.2) h]
def ok34:(Ac F34).ok Qa 34:=by
 refine model_ok ⟨_,func34,by kernel_rfl,by kernel_rfl⟩ ?_;intro ds r hF vs w G hl hrep hz;unfold F34 at hF;split at hF
 ·rename_i s;split at hF
  ·rename_i hx;simp only[Qc]at hF;have hp:=Classical.choose_spec hx.2;rw[hF]at hp
   match vs,hl with
   |[v],_=>
    have hv:=(hrep 0 _ v rfl rfl).str_inv;subst hv;cases hp with
    |none=>exact⟨rfl,p34z w G hz⟩
    |fail e _ he hs=>exact⟨rfl,p34f w G hz e he s hx.1 hs⟩
    |ok y _ hg hS hE hs=>
     refine⟨?_,p34o w G hz y hg hS hE s hx.1 hs⟩;show((D.agg (ryC (ryQ y))).calm&&_)=true;rw[ryC_calm];rfl
  ·cases hF
 ·cases hF
end Go.Vd
namespace Go.Vd
open Go.Proofs Go.RowKit Go.Sort Go.Shelf
def FV(top:Bs)(l:List Bs):List Bs:=l.filterMap λs=>if(Ce s top).2=true then some (Ce s top).1 else none
def kidL_cons(top s:Bs)(l:List Bs):FV top (s::l)=if(Ce s top).2=true then(Ce s top).1::FV top l else FV top l:=by
 unfold FV;rw[Zw];split
 ·rename_i h;split at h
  ·cases h
  ·rename_i h2;rw[if_neg h2]
 ·rename_i h;split at h
  ·rename_i h2;cases h;rw[if_pos h2]
  ·cases h
def LeftC(w:World)(ss:List Bs)(e:Ending)(w':World):Prop:=
 ∃v,e= .returned v∧Below w.heap.size w w'∧((v= .slice none 0 0∧ss=[])∨(ss≠[]∧∃g cap,v= .slice (some ⟨g,0,none⟩) (Lib.compact (ss.mergeSort λx y=>decide (x<=y))).length cap∧w.heap.size<=g∧g<w'.heap.size∧
  w'.ownsRow w.heap.size 9 1 v (Lib.compact (ss.mergeSort λx y=>decide (x<=y))).length ((Lib.compact (ss.mergeSort λx y=>decide (x<=y))).map encStr)))
def leftC_of{w w1:World}{g cap n nn q:Nat}{os:Array Obj}{ss:List (List UInt8)}(hown:w1.ownsRow w.heap.size 9 1 (.slice (some ⟨g,0,none⟩) n cap) n (ss.map encStr))(hbel:Below w.heap.size w w1)(hbg:w.heap.size<=g)(hlen:ss.length=n)(hne:ss≠[]):
  LeftC w ss (.returned (.slice (some ⟨g,0,none⟩) (Lib.compact (ss.mergeSort λx y=>decide (x<=y))).length cap))
   (putRow encStr (Sort.ahead (grow (putRow encStr (Sort.ahead w1 nn) g 0 (ss.mergeSort λx y=>decide (x<=y)).toArray) os) q) g 0 (Lib.compact (ss.mergeSort λx y=>decide (x<=y))++Zt (n-(Lib.compact (ss.mergeSort λx y=>decide (x<=y))).length) []).toArray):=by
 have hl2:(ss.mergeSort λx y=>decide (x<=y)).length=ss.length:=Qw ss;have hle:=Lib.compact_length_le (ss.mergeSort λx y=>decide (x<=y));subst hlen;rcases hown.2 with ⟨h0,_⟩|⟨g',cap',cur,hv,hbase,hb,h1,h2,h3,h4⟩
 ·cases h0
 cases hv;have hs:=ownsRow_sorted (n:=nn) (os:=os) (ts:=ss.mergeSort λx y=>decide (x<=y)) hl2 hbase hb h1 h2 h3;have hc:=Lib.ownsRow_putRow (q:=q) (k:=(Lib.compact (ss.mergeSort λx y=>decide (x<=y))).length) (ys:=Lib.compact (ss.mergeSort λx y=>decide (x<=y))++Zt (ss.length-(Lib.compact (ss.mergeSort λx y=>decide (x<=y))).length) []) hs (by simp;omega) (by omega);rw[List.take_left]at hc;exact⟨_,rfl,Lib.below_putRow (hbel.grown (grownBy_sorted _) hbel.size (λj hj=>by cases hj;exact hbase)) hbg,.inr ⟨hne,g,cap,rfl,hbg,(hc.lt g rfl).2,hc⟩⟩
def info9s:(Tryz.prog.info? 9).map (λi=>(i.zero,i.size,i.bytes))=some (some (.string ByteArray.empty),1,16):=by kernel_rfl
def own_em(v:Value):v.ownBlock=none∨v.ownBlock≠none:=Classical.em _
def Dl{B:Nat}{w w':World}(h:Below B w w')(hB:w.heap.size<=B)(row:Option Nat)(hs:w.heap.size<=w'.heap.size):w.grownBy w' row:=⟨h.os,h.tape,h.output,hs,λk hk _=>h.block k (by omega)⟩
def cellLater{w wx:World}{a:Addr}{v:Value}(hb:Below w.heap.size w wx)(h:w.cell? a=some v):wx.cell? a=some v:=(hb.cell (World.block_lt_of_cell? _ _ h)).trans h
def dropAt{α:Type}{l:List α}{j:Nat}{x:α}(h:l[j]?=some x):l.drop j=x::l.drop (j+1):=by
 obtain⟨h1,rfl⟩:=QI.1 h;exact List.drop_eq_getElem_cons h1
def w134(w:World)(top:Bs)(l:List Bs)(ao:Option Addr)(c:Nat)(hl:l.length<=1000)
  (hcell:∀j s,l[j]?=some s->∃a,ao=some a∧w.cell? (a.add j)=some (encStr s))
  (h238:∀s∈l,∀w,Calls Qa 238 #[encStr s,encStr top] w λe w'=>e= .returned (.tuple #[encStr (Ce s top).1,.bool (Ce s top).2])∧Below w.heap.size w w'):
  Calls Qa 134 #[encStr top,.slice ao l.length c] w (LeftC w (FV top l)):=by
 obtain⟨i0,hi,hx⟩:=Qt.1 info9s;simp only[QL]at hx;obtain⟨hz0,hz1,hz2⟩:=hx;have HC:Aside (∀j s,l[j]?=some s->∃a,ao=some a∧w.cell? (a.add j)=some (encStr s)):=hcell;have H2:Aside (∀s∈l,∀w,Calls Qa 238 #[encStr s,encStr top] w λe w'=>e= .returned (.tuple #[encStr (Ce s top).1,.bool (Ce s top).2])∧Below w.heap.size w w'):=h238;clear hcell h238;generalize htop:encStr top=vt at *;generalize hn:l.length=n at *
 go_enter func134,ntmps134
 go_wp2_with fail
 go_loopg [5,12] n (λg s5 s12 wx=>∃(k:Nat)(ks:List Bs),k+g=n∧s12= .int .i64 k∧Aside (ks++FV top (l.drop k)=FV top l)∧ks.length<=k∧
  wx.ownsRow w.heap.size 9 1 s5 ks.length (ks.map encStr)∧Aside (s5= .slice none 0 0↔ks=[])∧Below w.heap.size w wx)
 case atStart=>exact⟨0,[],by omega,rfl,rfl,Qe _,World.ownsRow_nil _ _ _ _,Iff.intro (λ_=>rfl) (λ_=>rfl),Below.refl _ _⟩
 case round=>
  obtain⟨k,ks,hkg,rfl,HI,hkl,hrow,hnn,hbx⟩:=hrel;cases gk with
  |zero=>
   have hkz:¬((k:Int)<(n:Int)):=by omega
   have HK:Aside (ks=FV top l):=by
    have:=HI.out;rw[Zb (by omega)]at this;show ks=_;simpa[FV]using this
   by_cases hks:ks=[]
   ·subst hks;have e0:u5= .slice none 0 0:=hnn.out.2 rfl;subst e0;clear hnn
    go_wp2_with (first
     |(go_at_call 235;refine(Any.slices_Sort_string_none lays190 none 0 _).mono ?_;rintro e w2 ⟨rfl,rfl⟩)
     |(go_at_call 239;refine(Any.slices_Compact_string_empty lays194 none 0 _).mono ?_;rintro e w3 ⟨rfl,rfl⟩))
    go_ret
    exact⟨_,rfl,hbx,.inl ⟨rfl,HK.out.symm⟩⟩
   ·have hs5:u5≠ .slice none 0 0:=λe=>hks (hnn.out.1 e)
    obtain⟨g0,cap0,rfl,hbg,hgl,hncap,hcm,hlen,hH⟩:=Lib.holds_of_ownsRow hrow hs5;have cSort:Calls Qa 235 #[.slice (some ⟨g0,0,none⟩) ks.length cap0] wr λe w'=>e= .returned (.tuple #[])∧∃n os,w'=grow (putRow encStr (Sort.ahead wr n) g0 0 (ks.mergeSort λx y=>decide (x<=y)).toArray) os:=Any.slices_Sort_string lays190 g0 0 cap0 ks wr hH hgl (by omega)
    have cComp:∀nn os,Calls Qa 239 #[.slice (some ⟨g0,0,none⟩) ks.length cap0] (grow (putRow encStr (Sort.ahead wr nn) g0 0 (ks.mergeSort λx y=>decide (x<=y)).toArray) os) λe w'=>
      e= .returned (.slice (some ⟨g0,0,none⟩) (Lib.compact (ks.mergeSort λx y=>decide (x<=y))).length cap0)∧∃q,w'=putRow encStr (Sort.ahead (grow (putRow encStr (Sort.ahead wr nn) g0 0 (ks.mergeSort λx y=>decide (x<=y)).toArray) os) q) g0 0 (Lib.compact (ks.mergeSort λx y=>decide (x<=y))++Zt (ks.length-(Lib.compact (ks.mergeSort λx y=>decide (x<=y))).length) []).toArray:=λnn os=>by
     have hl2:(ks.mergeSort λx y=>decide (x<=y)).length=ks.length:=Qw ks;have hH2:Go.Sort.Holds encStr (grow (putRow encStr (Sort.ahead wr nn) g0 0 (ks.mergeSort λx y=>decide (x<=y)).toArray) os) g0 0 (ks.mergeSort λx y=>decide (x<=y)).toArray:=
      holds_grow encStr _ os g0 0 _ (by simpa[putRow,mapBlock,Sort.ahead]using hgl) (holds_putRow encStr _ g0 0 _ _ (holds_ahead encStr wr nn g0 0 _ hH) (by simp))
     have:=Any.slices_Compact_string lays194 g0 0 cap0 (ks.mergeSort λx y=>decide (x<=y)) _ hH2 (by omega) (by omega);rw[hl2]at this;exact this
    have X:Aside (wr.ownsRow w.heap.size 9 1 (.slice (some ⟨g0,0,none⟩) ks.length cap0) ks.length (ks.map encStr)∧Below w.heap.size w wr):=⟨hrow,hbx⟩;clear hrow hbx hH hnn hs5
    go_wp2_with (first
     |(go_at_call 235;refine cSort.mono ?_;rintro e w2 ⟨rfl,nn,os,rfl⟩)
     |(go_at_call 239;refine(cComp _ _).mono ?_;rintro e w3 ⟨rfl,q,rfl⟩))
    go_ret
    rw[←HK.out];exact leftC_of X.out.1 X.out.2 hbg rfl hks
  |succ g=>
   have hkz:(k:Int)<(n:Int):=by omega
   obtain⟨s,hs⟩:∃s,l[k]?=some s:=⟨_,Qd (by omega)⟩;obtain⟨a,rfl,hca⟩:=HC.out k s hs;have hcellS:wr.cell? (a.add k)=some (encStr s):=cellLater hbx hca;have hd:Aside (l.drop k=s::l.drop (k+1)):=dropAt hs;have c2:=H2.out s (QE hs) wr;clear hs hca;have hsz:=hbx.size;generalize hvs:encStr s=vs at *;cases hb:(Ce s top).2 with
   |true=>
    rw[hb]at c2;generalize hp:(Ce s top).1=p at c2;have hstep:Aside (FV top (l.drop k)=p::FV top (l.drop (k+1))):=by
     show _=_;rw[hd.out,kidL_cons,if_pos hb,hp]
    clear hp hb
    go_wp2_with (first
     |(go_at_call 238;refine c2.mono ?_;rintro e w2 ⟨rfl,hb2⟩;have hs2:=hb2.size;have hrow2:=hrow.kept (Dl hb2 (Qe _) none hs2) (own_em _))
     |(at_builtin;refine wpList_append_own _ rfl _ _ 28 rfl w.heap.size 9 i0 (.string ByteArray.empty) 1 16 underlying28 hi hz0 hz1 hz2 rfl (by decide) _ _ _ rfl (hrow2.alloc _) ⟨w2.heap.size,0,none⟩ 1 1 [encStr p] rfl rfl (cell_one_new _ _ _) (λx hx=>by simp at hx;subst hx;rfl) (by unfold maxLen;omega) (by omega) (by simp;omega) ?_;intro v' w3 hown' hgrow3 hnil3))
    go_roundg g
    case measure=>omega
    case rel=>exact⟨k+1,ks++[p],by omega,by first|rfl|simp,by show _=_;rw[←HI.out,hstep.out];simp,by simp;omega,by simpa using hown',by show _↔_;rw[hnil3];simp,
      ((hbx.grown (Dl hb2 (Qe _) none hs2) hsz (λj hj=>by cases hj)).alloc (by omega) _).grown hgrow3 (by simp;omega) (λj hj=>(hrow2.lt j hj).1)⟩
   |false=>
    rw[hb]at c2;generalize hp:(Ce s top).1=p at c2;have hstep:Aside (FV top (l.drop k)=FV top (l.drop (k+1))):=by
     show _=_;rw[hd.out,kidL_cons,if_neg (by rw[hb];decide)]
    clear hp hb
    go_wp2_with (first
     |(go_at_call 238;refine c2.mono ?_;rintro e w2 ⟨rfl,hb2⟩;have hs2:=hb2.size;have hrow2:=hrow.kept (Dl hb2 (Qe _) none hs2) (own_em _)))
    go_roundg g
    case measure=>omega
    case rel=>exact⟨k+1,ks,by omega,by first|rfl|simp,by show _=_;rw[←HI.out,hstep.out],by omega,hrow2,hnn,hbx.grown (Dl hb2 (Qe _) none hs2) hsz (λj hj=>by cases hj)⟩
abbrev pB(b:Nat):Value:= .pointer (some ⟨b,0,none⟩)
section
variable(w0:World)(bg bs bt b4:Nat)(l:List Tk)(ao:Option Addr)(c:Nat)
structure TakeIn (w:World) (vg:Value) (xs:List Bs):Prop where
 own:w.ownsRow w0.heap.size 9 1 vg xs.length (xs.map encStr)
 g:w.heap[bg]?=some (.cells #[vg] 28 (0,0))
 s:w.heap[bs]?=some (.cells #[.slice ao l.length c] 55 (0,0))
 t:w.heap[bt]?=some (.cells #[.func (.func 234) #[] #[pB bg,pB bs,pB bt]] 332 (0,0))
 nl:vg= .slice none 0 0↔xs=[]
 r:w.heap[b4]?=some (.cells #[.slice none 0 0] 55 (0,0))
 below:Below w0.heap.size w0 w
def own_ne{w:World}{B e size n b:Nat}{v:Value}{xs:List Value}{cs:Array Value}{T:TypeId}{fr:Nat×Nat}(h:w.ownsRow B e size v n xs)(hb:w.heap[b]?=some (.cells cs T fr))(hT:T≠e):some b≠v.ownBlock:=by
 rcases h.2 with ⟨rfl,_⟩|⟨g,cap,cur,rfl,_,hg,_⟩
 ·intro h;cases h
 ·intro h;simp only[Value.ownBlock,Qc]at h;subst h;rw[hb]at hg;simp only[Qc,Obj.cells.injEq]at hg;exact hT hg.2.1
variable{w0 bg bs bt b4 l ao c}
def TakeIn.app{w w3:World}{vg v':Value}{xs:List Bs}{o:Obj}{name:Bs}(hbg:w0.heap.size<=bg)(T:TakeIn w0 bg bs bt b4 l ao c w vg xs)(hown:w3.ownsRow w0.heap.size 9 1 v' (xs.length+1) (xs.map encStr++[encStr name]))(hgrow:(w.alloc o).grownBy w3 vg.ownBlock)(hnil:v'= .slice none 0 0↔vg= .slice none 0 0∧(1:Nat)=0):
  ∃g cap,v'= .slice (some ⟨g,0,none⟩) (xs.length+1) cap∧w3.cell? ⟨bg,0,none⟩=some vg∧w3.frozen? ⟨bg,0,none⟩=false∧(w3.setCell ⟨bg,0,none⟩ v').cell? ⟨bs,0,none⟩=some (.slice ao l.length c)∧TakeIn w0 bg bs bt b4 l ao c (w3.setCell ⟨bg,0,none⟩ v') v' (xs++[name]):=by
 have hl:∀{b:Nat} {cs:Array Value} {T:TypeId},w.heap[b]?=some (.cells cs T (0,0))->T≠9->w3.heap[b]?=some (.cells cs T (0,0)):=λ{b cs Ty} hb hT=>by
  have hlt:b<w.heap.size:=(Qz.1 hb).1;rw[hgrow.block b (by simp;omega) (own_ne T.own hb hT),heap_alloc_old w o hlt];exact hb
 have g1:=hl T.g (by decide);have s1:=hl T.s (by decide);have t1:=hl T.t (by decide);have r1:=hl T.r (by decide);have hne:v'≠ .slice none 0 0:=λe=>by have:=(hnil.1 e).2;omega
 rcases hown.2 with ⟨h0,_⟩|⟨g,cap,cur,hv,hbase,hb,h1,h2,h3,h4⟩
 ·exact absurd h0 hne
 have hgb:g≠bg:=λe=>by
  subst e;rw[g1]at hb;simp only[Qc,Obj.cells.injEq]at hb;exact absurd hb.2.1 (by decide)
 have hoth:∀k,k≠bg->(w3.setCell ⟨bg,0,none⟩ v').heap[k]?=w3.heap[k]?:=λk hk=>heap_setCell_other w3 ⟨bg,0,none⟩ k _ hk
 have hbs:bs≠bg:=λe=>by have:=T.s;rw[e,T.g]at this;simp at this
 have hbt:bt≠bg:=λe=>by have:=T.t;rw[e,T.g]at this;simp at this
 have hbr:b4≠bg:=λe=>by have:=T.r;rw[e,T.g]at this;simp at this
 have s2:(w3.setCell ⟨bg,0,none⟩ v').heap[bs]?=some (.cells #[.slice ao l.length c] 55 (0,0)):=(hoth bs hbs).trans s1;refine⟨g,cap,hv,by simp[World.cell?,g1],by simp[World.frozen?,g1],by simp[World.cell?,s2],⟨?_,?_,s2,(hoth bt hbt).trans t1,⟨λe=>absurd e hne,λe=>by simp at e⟩,(hoth b4 hbr).trans r1,?_⟩⟩
 ·refine⟨by simp,.inr ⟨g,cap,cur,by rw[hv];simp,hbase,?_,by simpa using h1,h2,h3,by simpa using h4⟩⟩;rw[hoth g hgb];exact hb
 ·rw[heap_setCell_same w3 bg 0 _ _ _ g1];rfl
 ·exact((T.below.alloc T.below.size o).grown hgrow (by have:=T.below.size;simp;omega) (λk hk=>(T.own.lt k hk).1)).setCell hbg _
def add_add'(a:Addr)(n j:Nat):(a.add n).add j=a.add (n+j):=by
 unfold Addr.add;by_cases h1:n=0
 ·subst h1;simp
 ·by_cases h2:j=0
  ·subst h2;simp[h1]
  ·simp[h1,h2,Nat.add_assoc]
def TkIn(w0:World)(G:Nat->Nat)(l:List Tk)(ao:Option Addr):Prop:=∀j k,l[j]?=some k->∃a ro rn rc,ao=some a∧w0.cell? (a.add (j*3))=some (encStr k.1)∧w0.cell? (a.add (j*3+1))=some (encStr k.2.1)∧w0.cell? (a.add (j*3+2))=some (.slice ro rn rc)∧Rep w0 (Gh.base G) (.slice k.2.2.1 [] (Al k.2.2.2)) (.slice ro rn rc)
def TkIn.load{G:Nat->Nat}{w:World}{j:Nat}{k:Tk}(h:TkIn w0 G l ao)(hb:Below w0.heap.size w0 w)(hj:l[j]?=some k):∃a ro rn rc,ao=some a∧w.cell? (a.add (j*3))=some (encStr k.1)∧w.cell? ⟨(a.add (j*3)).block,(a.add (j*3)).off+1,none⟩=some (encStr k.2.1)∧w.cell? ⟨(a.add (j*3)).block,(a.add (j*3)).off+2,none⟩=some (.slice ro rn rc)∧Rep w0 (Gh.base G) (.slice k.2.2.1 [] (Al k.2.2.2)) (.slice ro rn rc):=by
 obtain⟨a,ro,rn,rc,e,c1,c2,c3,c4⟩:=h j k hj;have e1:∀i,i≠0->(⟨(a.add (j*3)).block,(a.add (j*3)).off+i,none⟩:Addr)=a.add (j*3+i):=λi hi=>by
  rw[←add_add'];generalize a.add (j*3)=b;unfold Addr.add;rw[if_neg hi]
 refine⟨a,ro,rn,rc,e,cellLater hb c1,?_,?_,c4⟩
 ·rw[e1 1 (by decide)];exact cellLater hb c2
 ·rw[e1 2 (by decide)];exact cellLater hb c3
def kidsT_cons(l:List Tk)(t:Tk)(s:Bs):B9 (t::l) s=if t.2.1=s∧t.1≠s then t.1::B9 l s else B9 l s:=by
 unfold B9;rw[List.filter_cons];by_cases h:t.2.1=s∧t.1≠s
 ·rw[if_pos h,if_pos (by simp[h.1,h.2])];rfl
 ·rw[if_neg h,if_neg (by simpa using h)]
def TakeIn.alloc{w:World}{vg:Value}{xs:List Bs}(T:TakeIn w0 bg bs bt b4 l ao c w vg xs)(o:Obj):TakeIn w0 bg bs bt b4 l ao c (w.alloc o) vg xs:=
 have hl:∀{b:Nat} {x:Obj},w.heap[b]?=some x->(w.alloc o).heap[b]?=some x:=λ{b x} h=>by
  rw[heap_alloc_old w o (Qz.1 h).1];exact h
 ⟨T.own.alloc o,hl T.g,hl T.s,hl T.t,T.nl,hl T.r,T.below.alloc T.below.size o⟩
theorem w234 (hg : w0.heap.size ≤ bg) (hl : l.length ≤ 1000) {G : Nat → Nat} (hT : TkIn w0 G l ao) (name : Bs) (sub : Bs → List Bs) (w : World) (vg : Value) (xs : List Bs)
    (hsub : ∀ t ∈ l, t.2.1 = name → t.1 ≠ name → ∀ w vg ys, TakeIn w0 bg bs bt b4 l ao c w vg ys → ys.length + (sub t.1).length ≤ 1000 → Calls Qa 234 #[encStr t.1, pB bg, pB bs, pB bt] w fun e w' => e = .returned (.tuple #[]) ∧ ∃ vg', TakeIn w0 bg bs bt b4 l ao c w' vg' (ys ++ sub t.1))
    (hlen : xs.length + 1 + ((B9 l name).flatMap sub).length ≤ 1000) (T : TakeIn w0 bg bs bt b4 l ao c w vg xs) :
    Calls Qa 234 #[encStr name, pB bg, pB bs, pB bt] w fun e w' => e = .returned (.tuple #[]) ∧ ∃ vg', TakeIn w0 bg bs bt b4 l ao c w' vg' (xs ++ name :: (B9 l name).flatMap sub) := by
  obtain ⟨i0, hi, hx⟩ := Qt.1 info9s
  simp only [QL] at hx
  obtain ⟨hz0, hz1, hz2⟩ := hx
  have C1 : w.cell? ⟨bg, 0, none⟩ = some vg := by simp [World.cell?, T.g]
  have C3 : w.frozen? ⟨bg, 0, none⟩ = false := by simp [World.frozen?, T.g]
  have hsz : xs.length < 1000 := by omega
  have hBw : w0.heap.size ≤ w.heap.size := T.below.size
  have TT : Aside (TakeIn w0 bg bs bt b4 l ao c w vg xs) := T
  have HT : Aside (TkIn w0 G l ao) := hT
  have HS : Aside (∀ t ∈ l, t.2.1 = name → t.1 ≠ name → ∀ w vg ys, TakeIn w0 bg bs bt b4 l ao c w vg ys → ys.length + (sub t.1).length ≤ 1000 → Calls Qa 234 #[encStr t.1, pB bg, pB bs, pB bt] w fun e w' => e = .returned (.tuple #[]) ∧ ∃ vg', TakeIn w0 bg bs bt b4 l ao c w' vg' (ys ++ sub t.1)) := hsub
  have HL : Aside (xs.length + 1 + ((B9 l name).flatMap sub).length ≤ 1000) := hlen
  have hrow := T.own
  clear T hlen hsub hT
  go_enter func234, ntmps234
  go_wp2_with (first
    | (at_builtin; refine wpList_append_own _ rfl _ _ 28 rfl w0.heap.size 9 i0 (.string ByteArray.empty) 1 16 underlying28 hi hz0 hz1 hz2 rfl (by decide) _ _ _ rfl (hrow.alloc _) ⟨w.heap.size, 0, none⟩ 1 1 [encStr name] rfl rfl (cell_one_new _ _ _) (fun x hx => by simp at hx; subst hx; rfl) (by unfold maxLen; omega) (by omega) (by simp; omega) ?_; intro v' w3 hown' hgrow3 hnil3
       obtain ⟨g2, cap2, rfl, D1, D2, D3, T2⟩ := TT.out.app hg hown' hgrow3 hnil3
       have T3 : Aside (TakeIn w0 bg bs bt b4 l ao c (w3.setCell ⟨bg, 0, none⟩ (.slice (some ⟨g2, 0, none⟩) (xs.length + 1) cap2)) (.slice (some ⟨g2, 0, none⟩) (xs.length + 1) cap2) (xs ++ [name])) := T2
       clear hnil3 hown' hgrow3 T2))
  go_loopg [14] l.length (fun g s14 wx => ∃ (k : Nat) (ys : List Bs) (vy : Value), k + g = l.length ∧ s14 = .int .i64 k ∧ Aside (ys ++ (B9 (l.drop k) name).flatMap sub = xs ++ name :: (B9 l name).flatMap sub) ∧ Aside (TakeIn w0 bg bs bt b4 l ao c wx vy ys))
  case atStart => exact ⟨0, xs ++ [name], _, by omega, rfl, by show _ = _; simp, T3⟩
  case round =>
    obtain ⟨k, ys, vy, hkg, rfl, HI, TY⟩ := hrel
    cases gk with
    | zero =>
      have hkz : ¬ ((k : Int) < (l.length : Int)) := by omega
      go_wp2_with fail
      go_end0
      refine ⟨rfl, vy, ?_⟩
      have := HI.out
      rw [Zb (by omega)] at this
      rw [← this]
      simpa [B9] using TY.out
    | succ g =>
      have hkz : (k : Int) < (l.length : Int) := by omega
      obtain ⟨t, hs⟩ : ∃ t, l[k]? = some t := ⟨_, Qd (by omega)⟩
      obtain ⟨a, ro, rn, rc, rfl, c1, c2, c3, _⟩ := HT.out.load TY.out.below hs
      have hd : Aside (l.drop k = t :: l.drop (k + 1)) := dropAt hs
      have hmem : t ∈ l := QE hs
      by_cases h1 : t.2.1 = name
      · by_cases h2 : t.1 = name
        · have hstep : Aside (B9 (l.drop k) name = B9 (l.drop (k + 1)) name) := by
            show _ = _
            rw [hd.out, kidsT_cons, if_neg (fun h => h.2 h2)]
          go_wp2_with fail
          go_roundg g
          case measure => omega
          case rel => exact ⟨k + 1, ys, vy, by omega, by first | rfl | simp, by show _ = _; rw [← HI.out, hstep.out], TY.out.alloc _⟩
        · have hstep : Aside (B9 (l.drop k) name = t.1 :: B9 (l.drop (k + 1)) name) := by
            show _ = _
            rw [hd.out, kidsT_cons, if_pos ⟨h1, h2⟩]
          have hcall : ∀ o, Calls Qa 234 #[encStr t.1, pB bg, pB bs, pB bt] (wr.alloc o) fun e w' => e = .returned (.tuple #[]) ∧ ∃ vg', TakeIn w0 bg bs bt b4 l (some a) c w' vg' (ys ++ sub t.1) := fun o =>
            HS.out t hmem h1 h2 _ vy ys (TY.out.alloc o) (by
              have h3 := congrArg List.length HI.out
              rw [hstep.out] at h3
              have h4 := HL.out
              simp only [List.flatMap_cons, Qf, QB] at h3
              omega)
          have h2' : (t.1 == name) = false := by simpa using h2
          have F : ∀ o, (wr.alloc o).cell? ⟨bt, 0, none⟩ = some (.func (.func 234) #[] #[pB bg, pB bs, pB bt]) := fun o => by simp [World.cell?, (TY.out.alloc o).t]
          go_wp2_with (go_at_call 234; refine (hcall _).mono ?_; rintro e w' ⟨rfl, vz, TZ⟩)
          go_roundg g
          case measure => omega
          case rel => exact ⟨k + 1, ys ++ sub t.1, vz, by omega, by first | rfl | simp, by show _ = _; rw [← HI.out, hstep.out]; simp, TZ⟩
      · have hstep : Aside (B9 (l.drop k) name = B9 (l.drop (k + 1)) name) := by
          show _ = _
          rw [hd.out, kidsT_cons, if_neg (fun h => h1 h.1)]
        have h1' : (t.2.1 == name) = false := by simpa using h1
        go_wp2_with fail
        go_roundg g
        case measure => omega
        case rel => exact ⟨k + 1, ys, vy, by omega, by first | rfl | simp, by show _ = _; rw [← HI.out, hstep.out], TY.out.alloc _⟩
def TakeIn.kept{w w':World}{vg:Value}{xs:List Bs}{row:Option Nat}(T:TakeIn w0 bg bs bt b4 l ao c w vg xs)(h:w.grownBy w' row)(hr:∀(b:Nat) cs Ty,w.heap[b]?=some (.cells cs Ty (0,0))->Ty≠97->some b≠row)(hB:∀k,row=some k->w0.heap.size<=k):TakeIn w0 bg bs bt b4 l ao c w' vg xs:=by
 have hl:∀{b:Nat} {cs:Array Value} {T:TypeId},w.heap[b]?=some (.cells cs T (0,0))->T≠97->w'.heap[b]?=some (.cells cs T (0,0)):=λ{b cs Ty} hb hT=>by
  rw[h.block b (Qz.1 hb).1 (hr b cs Ty hb hT)];exact hb
 refine⟨T.own.kept h ?_,hl T.g (by decide),hl T.s (by decide),hl T.t (by decide),T.nl,hl T.r (by decide),T.below.grown h T.below.size hB⟩;rcases T.own.2 with ⟨rfl,_⟩|⟨g,cap,cur,rfl,_,hb,_⟩
 ·exact .inl rfl
 ·exact .inr (hr g cur 9 hb (by decide))
def TakeIn.sorted{w:World}{vg:Value}{xs:List Bs}(T:TakeIn w0 bg bs bt b4 l ao c w vg xs)(hx:xs≠[]):∃g cap,vg= .slice (some ⟨g,0,none⟩) xs.length cap∧g<w.heap.size∧Go.Sort.Holds encStr w g 0 xs.toArray∧
  ∀nn os,TakeIn w0 bg bs bt b4 l ao c (grow (putRow encStr (Sort.ahead w nn) g 0 (xs.mergeSort λx y=>decide (x<=y)).toArray) os) vg (xs.mergeSort λx y=>decide (x<=y)):=by
 have hne:vg≠ .slice none 0 0:=λe=>hx (T.nl.1 e)
 have hl2:(xs.mergeSort λx y=>decide (x<=y)).length=xs.length:=Qw xs;rcases T.own.2 with ⟨h0,_⟩|⟨g,cap,cur,hv,hbase,hb,h1,h2,h3,h4⟩
 ·exact absurd h0 hne
 refine⟨g,cap,hv,(Qz.1 hb).1,Go.holds_of_block hb (by simpa using h4),λnn os=>?_⟩;have hgr:=Go.grownBy_sorted (w:=w) (g:=g) (n:=nn) (os:=os) (xs.mergeSort λx y=>decide (x<=y)).toArray;have hl:∀{b:Nat} {cs:Array Value} {T:TypeId},w.heap[b]?=some (.cells cs T (0,0))->T≠9->(grow (putRow encStr (Sort.ahead w nn) g 0 (xs.mergeSort λx y=>decide (x<=y)).toArray) os).heap[b]?=some (.cells cs T (0,0)):=λ{b cs Ty} hc hT=>by
  rw[hgr.block b (Qz.1 hc).1 (λe=>by
   have:=own_ne T.own hc hT;rw[hv]at this;exact this e)];exact hc
 refine⟨?_,hl T.g (by decide),hl T.s (by decide),hl T.t (by decide),⟨λe=>absurd e hne,λe=>?_⟩,hl T.r (by decide),T.below.grown hgr T.below.size (λk hk=>by cases hk;exact hbase)⟩
 ·rw[hv,hl2];exact Go.ownsRow_sorted hl2 hbase hb h1 h2 h3
 ·rw[e]at hl2;exact absurd (QJ hl2.symm) hx
def w234f(hg:w0.heap.size<=bg)(hl:l.length<=1000){G:Nat->Nat}(hT:TkIn w0 G l ao){r:Bs->Nat}(T:TreeT l r):∀(f:Nat)(name:Bs),l.length<=r name+f->∀(w:World)(vg:Value)(xs:List Bs),TakeIn w0 bg bs bt b4 l ao c w vg xs->xs.length+(ED l f name).length<=1000->
  Calls Qa 234 #[encStr name,pB bg,pB bs,pB bt] w λe w'=>e= .returned (.tuple #[])∧∃vg',TakeIn w0 bg bs bt b4 l ao c w' vg' (xs++ED l f name)
 |0,name,hr,w,vg,xs,h,hlen=>by
  have hk:B9 l name=[]:=by
   cases hc:B9 l name with
   |nil=>rfl
   |cons a t=>have:=kid_rank T (show a∈B9 l name by rw[hc];exact Qp ..);omega
  have:=w234 hg hl hT name (λ_=>[]) w vg xs (λt ht h1 h2=>by
   have h3:=T.up t ht;have h4:=T.top t ht;rw[h1]at h3;omega) (by rw[hk];simpa[ED]using hlen) h
  rw[hk]at this;exact this
 |f+1,name,hr,w,vg,xs,h,hlen=>by
  refine w234 hg hl hT name (ED l f) w vg xs (λt ht h1 h2 w vg ys hy hly=>?_) (by simp only[ED,QB]at hlen;omega) h;have h3:=T.up t ht;rw[h1]at h3;exact w234f hg hl hT T f t.1 (by omega) w vg ys hy hly
end
def info97s:(Tryz.prog.info? 97).map (λi=>(i.zero,i.size,i.bytes))=some (some (.agg #[.string ByteArray.empty,.string ByteArray.empty,.slice none 0 0]),3,56):=by kernel_rfl
def tkV(p:Tk×Value):List Value:=[encStr p.1.1,encStr p.1.2.1,p.2]
def cell3_new(w:World)(a b c:Value)(t:TypeId):∀j u,[a,b,c][j]?=some u->(w.alloc (.cells #[a,b,c] t)).cell? ((⟨w.heap.size,0,none⟩:Addr).add j)=some u:=by
 intro j u hj
 match j,hj with
 |0,hj=>simp at hj;subst hj;simp[Addr.add]
 |1,hj=>simp at hj;subst hj;simp[Addr.add]
 |2,hj=>simp at hj;subst hj;simp[Addr.add]
def two_alloc{w w2:World}{o1 o2:Obj}(h:Below ((w.alloc o1).alloc o2).heap.size ((w.alloc o1).alloc o2) w2):w2.heap[w.heap.size]?=some o1∧w2.heap[w.heap.size+1]?=some o2∧Below w.heap.size w w2∧w.heap.size+2<=w2.heap.size:=by
 have hz:(w.alloc o1).heap.size=w.heap.size+1:=QA _;have hz2:((w.alloc o1).alloc o2).heap.size=w.heap.size+2:=(QA _).trans (by rw[hz]);have e1:(w.alloc o1).heap[w.heap.size]?=some o1:=heap_alloc_new w o1;have e2:((w.alloc o1).alloc o2).heap[w.heap.size]?=some o1:=by rw[heap_alloc_old _ _ (by omega)];exact e1
 have e3:((w.alloc o1).alloc o2).heap[w.heap.size+1]?=some o2:=by have:=heap_alloc_new (w.alloc o1) o2;rwa [hz]at this
 exact⟨by rw[h.block _ (by omega)];exact e2,by rw[h.block _ (by omega)];exact e3,(((Below.refl _ w).alloc (Qe _) _).alloc (by omega) _).trans (h.mono (by omega)),by have:=h.size;omega⟩
def cellOne{w:World}{b:Nat}{v:Value}{T:TypeId}(h:w.heap[b]?=some (.cells #[v] T (0,0))):w.cell? ⟨b,0,none⟩=some v:=by simp[World.cell?,h]
def freeOne{w:World}{b:Nat}{v:Value}{T:TypeId}(h:w.heap[b]?=some (.cells #[v] T (0,0))):w.frozen? ⟨b,0,none⟩=false:=by simp[World.frozen?,h]
def w131n(w:World)(l:List Tk)(ao:Option Addr)(c:Nat)(name:Bs)(q:Int)
  (h93:∀wx,Below w.heap.size w wx->Calls Qa 93 #[.agg #[.slice ao l.length c],encStr name] wx λe w'=>e= .returned (.tuple #[.int .i64 q,.bool false])∧Below wx.heap.size wx w'):
  Calls Qa 131 #[.agg #[.slice ao l.length c],encStr name] w λe w'=>e= .returned (.tuple #[.agg #[.slice ao l.length c],.slice none 0 0,.int .i64 6])∧Below w.heap.size w w':=by
 go_enter func131,ntmps131
 go_wp2_with fail
 refine(h93 _ (((Below.refl _ w).alloc (Qe _) _).alloc (by simp) _)).mono ?_;rintro e w2 ⟨rfl,hb2⟩;obtain⟨x1,x2,x3,x4⟩:=two_alloc hb2;have C1:w2.cell? ⟨w.heap.size,0,none⟩=some (.slice ao l.length c):=by simp[World.cell?,x1]
 have C2:w2.cell? ⟨w.heap.size+1,0,none⟩=some (.slice none 0 0):=by simp[World.cell?,x2]
 have C3:w2.frozen? ⟨w.heap.size+1,0,none⟩=false:=by simp[World.frozen?,x2]
 have C4:∀v,(w2.setCell ⟨w.heap.size+1,0,none⟩ v).cell? ⟨w.heap.size+1,0,none⟩=some v:=λv=>World.cell?_setCell_same' _ _ _ (by rw[C2];rfl)
 go_wp2_with fail
 refine bodyPost_ret (v:= .tuple #[.agg #[.slice ao l.length c],.slice none 0 0,.int .i64 6]) (by simp[results,results131,go_sem,C4]) rfl ⟨rfl,x3.setCell (by simp) _⟩
def DN(l:List Tk)(gone:List Bs):List Tk:=l.filter λt=>!hasSt gone t.1
def leftT_cons(t:Tk)(l:List Tk)(gone:List Bs):DN (t::l) gone=if hasSt gone t.1=true then DN l gone else t::DN l gone:=by
 unfold DN;rw[List.filter_cons];cases hasSt gone t.1<;>rfl
def own_setCell{w:World}{B e size n b:Nat}{v u:Value}{xs:List Value}(h:w.ownsRow B e size v n xs)(hne:some b≠v.ownBlock):(w.setCell ⟨b,0,none⟩ u).ownsRow B e size v n xs:=by
 refine⟨h.1,?_⟩;rcases h.2 with h|⟨g,cap,cur,rfl,h1,h2,h3⟩
 ·exact .inl h
 ·refine .inr ⟨g,cap,cur,rfl,h1,?_,h3⟩;rw[heap_setCell_other _ _ _ _ (λe=>hne (congrArg some (show b=g from e.symm)))];exact h2
def take_start{w w2:World}{l:List Tk}{ao:Option Addr}{c:Nat}(x1:w2.heap[w.heap.size]?=some (.cells #[.slice ao l.length c] 55 (0,0)))(x2:w2.heap[w.heap.size+1]?=some (.cells #[.slice none 0 0] 55 (0,0)))(x3:Below w.heap.size w w2)(x4:w.heap.size+2<=w2.heap.size):
  TakeIn w w2.heap.size w.heap.size (w2.heap.size+1) (w.heap.size+1) l ao c ((w2.alloc (Obj.cells #[Value.slice none 0 0] 28)).alloc (Obj.cells #[Value.func (Fn.func 234) #[] #[pB w2.heap.size,pB w.heap.size,pB (w2.heap.size+1)]] 332)) (.slice none 0 0) []:=by
 have hz:(w2.alloc (Obj.cells #[Value.slice none 0 0] 28)).heap.size=w2.heap.size+1:=QA _;have old:∀o {k:Nat} {x:Obj},w2.heap[k]?=some x->((w2.alloc (Obj.cells #[Value.slice none 0 0] 28)).alloc o).heap[k]?=some x:=λo k x h=>by
  have hk:=(Qz.1 h).1;rw[heap_alloc_old _ _ (by omega),heap_alloc_old _ _ hk];exact h
 refine⟨World.ownsRow_nil _ _ _ _,?_,old _ x1,?_,⟨λ_=>rfl,λ_=>rfl⟩,old _ x2,(x3.alloc (by omega) _).alloc (by omega) _⟩
 ·rw[heap_alloc_old _ _ (by omega)];exact heap_alloc_new _ _
 ·have:=heap_alloc_new (w2.alloc (Obj.cells #[Value.slice none 0 0] 28)) (Obj.cells #[Value.func (Fn.func 234) #[] #[pB w2.heap.size,pB w.heap.size,pB (w2.heap.size+1)]] 332)
  rwa [hz]at this
def w131y(w:World)(G:Nat->Nat)(l:List Tk)(ao:Option Addr)(c:Nat)(name:Bs)(q:Int)(r:Bs->Nat)(hl:l.length<=900)(hT:TkIn w G l ao)(T:TreeT l r)
  (h93:∀wx,Below w.heap.size w wx->Calls Qa 93 #[.agg #[.slice ao l.length c],encStr name] wx λe w'=>e= .returned (.tuple #[.int .i64 q,.bool true])∧Below wx.heap.size wx w')
  (h236:∀(wx:World)(v:Value)(ys:List Bs)(s:Bs),wx.ownsRow w.heap.size 9 1 v ys.length (ys.map encStr)->ys≠[]->ys.length<=1000->(v= .slice none 0 0↔ys=[])->Calls Qa 236 #[v,encStr s] wx λe w'=>e= .returned (.bool (hasSt ys s))∧Below wx.heap.size wx w'):
  Calls Qa 131 #[.agg #[.slice ao l.length c],encStr name] w λe w'=>∃gv lv ps,e= .returned (.tuple #[.agg #[lv],gv,.int .i64 0])∧Below w.heap.size w w'∧
   w'.ownsRow w.heap.size 9 1 gv (ED l l.length name).length (((ED l l.length name).mergeSort λx y=>decide (x<=y)).map encStr)∧gv≠ .slice none 0 0∧
   w'.ownsRow w.heap.size 97 3 lv ps.length (ps.flatMap tkV)∧(lv= .slice none 0 0↔ps=[])∧ps.map (·.1)=DN l ((ED l l.length name).mergeSort λx y=>decide (x<=y))∧
   ∀p∈ps,Rep w (Gh.base G) (.slice p.1.2.2.1 [] (Al p.1.2.2.2)) p.2:=by
 obtain⟨i0,hi,hx⟩:=Qt.1 info97s;simp only[QL]at hx;obtain⟨hz0,hz1,hz2⟩:=hx;have hdl:=dfs_len T l.length name;have hdn:ED l l.length name≠[]:=by cases l.length<;>simp[ED]
 go_enter func131,ntmps131
 go_wp2_with fail
 refine(h93 _ (((Below.refl _ w).alloc (Qe _) _).alloc (by simp) _)).mono ?_;rintro e w2 ⟨rfl,hb2⟩;obtain⟨x1,x2,x3,x4⟩:=two_alloc hb2;clear hb2;have D0:((w2.alloc (Obj.cells #[Value.slice none 0 0] 28)).alloc (Obj.cells #[Value.nilFunc] 332)).heap[w2.heap.size+1]?=some (Obj.cells #[Value.nilFunc] 332):=by
  have:=heap_alloc_new (w2.alloc (Obj.cells #[Value.slice none 0 0] 28)) (Obj.cells #[Value.nilFunc] 332)
  rwa [show(w2.alloc (Obj.cells #[Value.slice none 0 0] 28)).heap.size=w2.heap.size+1 from QA _]at this
 have D1:((w2.alloc (Obj.cells #[Value.slice none 0 0] 28)).alloc (Obj.cells #[Value.nilFunc] 332)).cell? ⟨w2.heap.size+1,0,none⟩=some Value.nilFunc:=cellOne D0;have D2:((w2.alloc (Obj.cells #[Value.slice none 0 0] 28)).alloc (Obj.cells #[Value.nilFunc] 332)).frozen? ⟨w2.heap.size+1,0,none⟩=false:=freeOne D0
 go_wp2_with fail
 have T0:=take_start x1 x2 x3 x4;refine(w234f (by omega) (by omega) hT T l.length name (by omega) _ _ _ T0 (by simp;omega)).mono ?_;rintro e w3 ⟨rfl,v3,T3⟩;clear T0 D0 D1 D2;rw[Qr]at T3;generalize hD:ED l l.length name=ds at *;obtain⟨g,cap,rfl,hg3,hH,T4⟩:=T3.sorted hdn;have E1:w3.cell? ⟨w2.heap.size,0,none⟩=some (.slice (some ⟨g,0,none⟩) ds.length cap):=cellOne T3.g;have cSort:Calls Qa 235 #[.slice (some ⟨g,0,none⟩) ds.length cap] w3 λe w'=>e= .returned (.tuple #[])∧∃n os,w'=grow (putRow encStr (Sort.ahead w3 n) g 0 (ds.mergeSort λx y=>decide (x<=y)).toArray) os:=Any.slices_Sort_string lays190 g 0 cap ds w3 hH hg3 (by omega)
 go_wp2_with fail
 refine cSort.mono ?_;rintro e w4 ⟨rfl,nn,os,hw4⟩;replace T4:=T4 nn os;rw[←hw4]at T4;clear cSort hw4 T3 hH E1;have hl2:(ds.mergeSort λx y=>decide (x<=y)).length=ds.length:=Qw ds;have hsn:(ds.mergeSort λx y=>decide (x<=y))≠[]:=λe=>by rw[e]at hl2;exact hdn (QJ hl2.symm)
 generalize hss:(ds.mergeSort λx y=>decide (x<=y))=ss at *;have E2:w4.cell? ⟨w.heap.size,0,none⟩=some (.slice ao l.length c):=cellOne T4.s;have HT:Aside (TkIn w G l ao):=hT;have H2:Aside (∀(wx:World)(v:Value)(ys:List Bs)(s:Bs),wx.ownsRow w.heap.size 9 1 v ys.length (ys.map encStr)->ys≠[]->ys.length<=1000->(v= .slice none 0 0↔ys=[])->Calls Qa 236 #[v,encStr s] wx λe w'=>e= .returned (.bool (hasSt ys s))∧Below wx.heap.size wx w'):=h236;clear hT h236 h93;generalize hnn0:ds.length=n at *
 go_wp2_with fail
 go_loopg [11,32] l.length (λgg s11 s32 wx=>∃(k:Nat)(ps:List (Tk×Value)),k+gg=l.length∧s32= .int .i64 k∧ps.length<=k∧Aside (ps.map (·.1)++DN (l.drop k) ss=DN l ss)∧
  wx.ownsRow w.heap.size 97 3 s11 ps.length (ps.flatMap tkV)∧Aside (s11= .slice none 0 0↔ps=[])∧Aside (∀p∈ps,Rep w (Gh.base G) (.slice p.1.2.2.1 [] (Al p.1.2.2.2)) p.2)∧
  Aside (TakeIn w w2.heap.size w.heap.size (w2.heap.size+1) (w.heap.size+1) l ao c wx (.slice (some ⟨g,0,none⟩) n cap) ss))
 case atStart=>exact⟨0,[],by omega,rfl,Qe _,rfl,World.ownsRow_nil _ _ _ _,Iff.intro (λ_=>rfl) (λ_=>rfl),(by show ∀p∈([]:List (Tk×Value)),_;intro p hp;cases hp),T4⟩
 case round=>
  obtain⟨k,ps,hkg,rfl,hpk,HI,hrow,hnn,HR,TY⟩:=hrel;have hBw:=TY.out.below.size;cases gk with
  |zero=>
   have hkz:¬((k:Int)<(l.length:Int)):=by omega
   have G1:wr.cell? ⟨w2.heap.size,0,none⟩=some (.slice (some ⟨g,0,none⟩) n cap):=cellOne TY.out.g;have G2:wr.cell? ⟨w.heap.size+1,0,none⟩=some (.slice none 0 0):=cellOne TY.out.r;have G3:wr.frozen? ⟨w.heap.size+1,0,none⟩=false:=freeOne TY.out.r;have G0:w.heap.size+1≠w2.heap.size:=by omega
   have G4:∀v,(wr.setCell ⟨w.heap.size+1,0,none⟩ v).cell? ⟨w2.heap.size,0,none⟩=some (.slice (some ⟨g,0,none⟩) n cap):=λv=>(World.cell?_setCell_other _ _ _ _ (λe=>G0 (congrArg Addr.block e))).trans G1
   have G5:∀v,(wr.setCell ⟨w.heap.size+1,0,none⟩ v).cell? ⟨w.heap.size+1,0,none⟩=some v:=λv=>World.cell?_setCell_same' _ _ _ (by rw[G2];rfl)
   obtain⟨lo,ln,lc,rfl⟩:∃lo ln lc,u11= .slice lo ln lc:=by
    rcases hrow.2 with ⟨h,_⟩|⟨_,_,_,h,_⟩<;>exact⟨_,_,_,h⟩
   go_wp2_with fail
   go_region
   all_goals (
    go_wp2_with fail
    have hb4:=own_setCell (u:= .slice lo ln lc) hrow (own_ne hrow TY.out.r (by decide));have hb5:=own_setCell (u:= .slice lo ln lc) TY.out.own (own_ne TY.out.own TY.out.r (by decide));have hbl:=TY.out.below.setCell (p:=⟨w.heap.size+1,0,none⟩) (by simp) (.slice lo ln lc);refine bodyPost_ret (v:= .tuple #[.agg #[.slice lo ln lc],.slice (some ⟨g,0,none⟩) n cap,.int .i64 0]) (by simp[results,results131,go_sem,G5]) rfl ⟨_,_,ps,rfl,⟨hbl.os,hbl.tape,hbl.output,hbl.size,hbl.block⟩,?_,by simp,hb4,hnn.out,?_,HR.out⟩
    ·rw[hl2]at hb5;rw[hD,hss,hnn0];exact hb5
    ·have:=HI.out;rw[Zb (by omega)]at this;rw[hD,hss,←this];simp[DN])
  |succ gg=>
   have hkz:(k:Int)<(l.length:Int):=by omega
   obtain⟨t,hs⟩:∃t,l[k]?=some t:=⟨_,Qd (by omega)⟩;obtain⟨a,ro,rn,rc,rfl,c1,c2,c3,c4⟩:=HT.out.load TY.out.below hs;have hd:Aside (l.drop k=t::l.drop (k+1)):=dropAt hs;have c236:∀o,Calls Qa 236 #[.slice (some ⟨g,0,none⟩) n cap,encStr t.1] (wr.alloc o) λe w'=>e= .returned (.bool (hasSt ss t.1))∧Below (wr.alloc o).heap.size (wr.alloc o) w':=λo=>
    H2.out _ _ ss t.1 (TY.out.alloc o).own hsn (by omega) ⟨λe=>by simp at e,λe=>absurd e hsn⟩
   have E3:∀o,(wr.alloc o).cell? ⟨w2.heap.size,0,none⟩=some (.slice (some ⟨g,0,none⟩) n cap):=λo=>cellOne (TY.out.alloc o).g
   have C4:Aside (Rep w (Gh.base G) (.slice t.2.2.1 [] (Al t.2.2.2)) (.slice ro rn rc)):=c4;clear c4 hs
   go_wp2_with fail
   refine(c236 _).mono ?_;rintro e w5 ⟨rfl,hb5⟩;generalize ho:Obj.cells #[encStr t.1,encStr t.2.1,.slice ro rn rc] 97 (0,0)=ob at *;have hsz5:=hb5.size;have hsz6:(wr.alloc ob).heap.size=wr.heap.size+1:=QA _;have T5:Aside (TakeIn w w2.heap.size w.heap.size (w2.heap.size+1) (w.heap.size+1) l (some a) c w5 (.slice (some ⟨g,0,none⟩) n cap) ss):=
    (TY.out.alloc ob).kept (Dl hb5 (Qe _) none hsz5) (λ_ _ _ _ _ h=>by cases h) (λ_ h=>by cases h)
   have hrow5:=(hrow.alloc ob).kept (Dl hb5 (Qe _) none hsz5) (own_em _);have F0:w5.heap[wr.heap.size]?=some ob:=by rw[hb5.block _ (by omega)];exact heap_alloc_new _ _
   subst ho;have F1:w5.cell? ⟨wr.heap.size,0,none⟩=some (encStr t.1):=by simp[World.cell?,F0]
   have F2:w5.cell? ⟨wr.heap.size,1,none⟩=some (encStr t.2.1):=by simp[World.cell?,F0]
   have F3:w5.cell? ⟨wr.heap.size,2,none⟩=some (.slice ro rn rc):=by simp[World.cell?,F0]
   clear c236 E3 hb5 F0;cases hb:hasSt ss t.1 with
   |true=>
    have hstep:Aside (DN (l.drop k) ss=DN (l.drop (k+1)) ss):=by show _=_;rw[hd.out,leftT_cons,if_pos hb]
    clear hb
    go_wp2_with fail
    go_roundg gg
    case measure=>omega
    case rel=>exact⟨k+1,ps,by omega,by first|rfl|simp,by omega,by show _=_;rw[←HI.out,hstep.out],hrow5,hnn,HR,T5⟩
   |false=>
    have hstep:Aside (DN (l.drop k) ss=t::DN (l.drop (k+1)) ss):=by show _=_;rw[hd.out,leftT_cons,if_neg (by rw[hb];decide)]
    clear hb
    go_wp2_with (at_builtin;refine wpList_append_own _ rfl _ _ 53 rfl w.heap.size 97 i0 (.agg #[.string ByteArray.empty,.string ByteArray.empty,.slice none 0 0]) 3 56 underlying53 hi hz0 hz1 hz2 rfl (by decide) _ _ _ rfl (hrow5.alloc _) ⟨w5.heap.size,0,none⟩ 1 1 [encStr t.1,encStr t.2.1,.slice ro rn rc] rfl rfl (cell3_new _ _ _ _ _) (λx hx=>by simp at hx;rcases hx with rfl|rfl|rfl<;>rfl) (by unfold maxLen;omega) (by omega) (by simp;omega) ?_;intro v' w6 hown' hgrow6 hnil6)
    have hsz7:(w5.alloc (Obj.cells #[encStr t.1,encStr t.2.1,.slice ro rn rc] 97 (0,0))).heap.size=w5.heap.size+1:=QA _;have T6:Aside (TakeIn w w2.heap.size w.heap.size (w2.heap.size+1) (w.heap.size+1) l (some a) c w6 (.slice (some ⟨g,0,none⟩) n cap) ss):=
     (T5.out.alloc _).kept hgrow6 (λb cs Ty hb hT=>own_ne (hrow5.alloc _) hb hT) (λj hj=>(hrow5.lt j hj).1)
    go_roundg gg
    case measure=>omega
    case rel=>exact⟨k+1,ps++[(t,.slice ro rn rc)],by omega,by first|rfl|simp,by simp;omega,by show _=_;rw[←HI.out,hstep.out];simp,by simpa[tkV]using hown',by show _↔_;rw[hnil6];simp,(by
      show ∀p∈_,_;intro p hp;rcases QH.1 hp with h|h
      ·exact HR.out p h
      ·rw[Qy.1 h];exact C4.out),T6⟩
def rep_later{w wx:World}{G:Nat->Nat}{d:D}{v:Value}(h:Rep w (Gh.base G) d v)(hc:d.calm=true)(hgz:∀b,w.heap.size<=b->G b=0)(hb:Below w.heap.size w wx){G':Nat->Nat}(hG:∀b,b<w.heap.size->G b<=G' b):Rep wx (Gh.base G') d v:=
 h.calm_to hc (λp hp=>by
  have hlt:p.block<w.heap.size:=by
   rcases Zj p.block w.heap.size with h|h
   ·exact h
   ·have:=hgz _ h;simp only[Gh.base]at hp;omega
  exact hb.cell hlt) (λb=>by
  rcases Zj b w.heap.size with h|h
  ·exact hG b h
  ·show G b<=_;rw[hgz b h];exact Qg _)
def tks_cells{w:World}{G:Nat->Nat}{nl:Bool}{t:Id}{l:List Tk}{v:Value}(h:Rep w (Gh.base G) (.slice nl t (Ax l)) v):∃ao c,v= .slice ao l.length c∧TkIn w G l ao:=by
 rcases h.slice_inv with ⟨_,h0,rfl⟩|⟨_,ad,n,c,sz,vv,rfl,hn,hc,r3,r4,r5,r6,r7,r8,r9⟩
 ·have:l=[]:=by cases l with|nil=>rfl|cons=>cases h0
  subst this;exact⟨none,0,rfl,λj s h=>by simp at h⟩
 ·rw[show(Ax l).length=l.length from Qk ..]at hn;subst hn;refine⟨some ad,c,rfl,λj k hj=>?_⟩;have hlt:j<l.length:=(QI.1 hj).1;have hsz:sz=3:=(r3 (tkD k) (Qn.2 ⟨k,QE hj,rfl⟩)).symm;subst hsz;have hk:l[j]=k:=(QI.1 hj).2;have hget:∀i,i<3->(flat (Ax l))[j*3+i]?=(tkD k).cells[i]?:=λi hi=>by
   rw[Eg r3 (by simpa[Ax]using hlt) hi];simp[Ax,hk]
  have e0:=(r6 _ _ ((hget 0 (by decide)).trans rfl)).str_inv;have e1:=(r6 _ _ ((hget 1 (by decide)).trans rfl)).str_inv;have e2:=r6 _ _ ((hget 2 (by decide)).trans rfl);obtain⟨ro,rc,ev,_⟩:=e2.len_slice;rw[ev]at e2;exact⟨ad,ro,_,rc,rfl,by rw[r4 _ (by omega)];exact congrArg some e0,by rw[r4 _ (by omega)];exact congrArg some e1,by rw[r4 _ (by omega),ev],e2⟩
def flat_tks{w:World}{g:Gh}:∀(ps:List (Tk×Value))(_:∀p∈ps,Rep w g (.slice p.1.2.2.1 [] (Al p.1.2.2.2)) p.2)(j:Nat)(d:D),(flat (Ax (ps.map (·.1))))[j]?=some d->∃v,(ps.flatMap tkV)[j]?=some v∧v.oneCell'=true∧Rep w g d v
 |[],_,j,d,h=>by simp[Ax,flat]at h
 |p::ps,hp,j,d,h=>by
  have e:flat (Ax ((p::ps).map (·.1)))=[D.str p.1.1,D.str p.1.2.1,D.slice p.1.2.2.1 [] (Al p.1.2.2.2)]++flat (Ax (ps.map (·.1))):=rfl;rw[e]at h;rw[List.flatMap_cons];have hr:=hp p (Qp ..)
  match j,h with
  |0,h=>cases h;exact⟨_,rfl,rfl,.str _⟩
  |1,h=>cases h;exact⟨_,rfl,rfl,.str _⟩
  |2,h=>
   cases h;refine⟨p.2,rfl,?_,hr⟩;obtain⟨_,_,ev,_⟩:=hr.len_slice;rw[ev];rfl
  |j+3,h=>exact flat_tks ps (λq hq=>hp q (Qx _ hq)) j d h
def own_tks{w:World}{B e:Nat}{lv:Value}{ps:List (Tk×Value)}{g:Gh}(h:w.ownsRow B e 3 lv ps.length (ps.flatMap tkV))(hnil:lv= .slice none 0 0↔ps=[])(hp:∀p∈ps,Rep w g (.slice p.1.2.2.1 [] (Al p.1.2.2.2)) p.2)(hG:∀b,lv.ownBlock=some b->ps.length*3<=g.G b):Rep w g (.slice (decide (ps.map (·.1)=[])) [] (Ax (ps.map (·.1)))) lv:=by
 rcases h.2 with ⟨h0,hz⟩|⟨b,c,cur,hv,_,_,hnc,_⟩
 ·have:=hnil.1 h0;subst this;subst h0;exact .nils _
 ·have hne:ps≠[]:=λe=>by rw[hnil.2 e]at hv;cases hv
  have hb:=hG b (by rw[hv];rfl);rw[decide_eq_false (by simpa using hne)];have hown:=h;subst hv;refine .slice [] _ ⟨b,0,none⟩ ps.length c 3 (λj=>(ps.flatMap tkV).getD j .nilFunc) (by simp[Ax]) hnc (λd hd=>?_) (λj hj=>?_) (λj hj=>?_) (λj d hd=>?_) (λ_=>by simp only;omega) (λh=>absurd rfl h) (λd hd=>?_)
  ·obtain⟨s,_,rfl⟩:=Qn.1 hd;rfl
  ·have hj':j<(ps.flatMap tkV).length:=by rw[h.1];exact hj
   exact hown.cells rfl j _ (by simp only[QR];rw[Qd hj'];rfl)
  ·have hj2:j<(flat (Ax (ps.map (·.1)))).length:=by
    rw[B_ (sz:=3) (λd hd=>by obtain⟨s,_,rfl⟩:=Qn.1 hd;rfl)];simpa[Ax]using hj
   obtain⟨v,hv1,hv2,_⟩:=flat_tks ps hp j _ (Qd hj2);simp only[QR,hv1,QS];exact hv2
  ·obtain⟨v,hv1,_,hv3⟩:=flat_tks ps hp j d hd;simp only[QR,hv1,QS];exact hv3
  ·obtain⟨s,_,rfl⟩:=Qn.1 hd;rfl
def restB_len(s top:Bs):(C_ s top).length<=s.length:=by
 unfold C_;split
 ·exact Qe _
 ·split
  ·split<;>(simp only[QM];omega)
  ·exact Qg _
def srtB(l:List Bs):List Bs:=l.mergeSort λx y=>decide (x<=y)
def chB(top:Bs)(l:List Bs):List Bs:=Lib.compact (srtB (FV top l))
def mk134(p:Bs×Bool×List Bs):List D:=[.str p.1,.slice p.2.1 [] (Ay p.2.2)]
def strsD_inj{a b:List Bs}(h:Ay a=Ay b):a=b:=by
 unfold Ay at h;exact List.map_inj_right (λx y e=>by cases e;rfl) |>.1 h
def mk134_inj(x y)(h:mk134 x=mk134 y):x=y:=by
 obtain⟨a,b,c⟩:=x;obtain⟨a',b',c'⟩:=y;simp only[mk134,QW,D.str.injEq,D.slice.injEq,true_and,and_true]at h;obtain⟨rfl,rfl,h⟩:=h;rw[strsD_inj h]
def EH:List D->Option D:=FX mk134 (λp=>p.2.2.length<=1000∧∀s∈p.2.2,s.length<=1000000) λp=> .slice (decide (FV p.1 p.2.2=[])) [] (Ay (chB p.1 p.2.2))
def G134_eq{top:Bs}{nl:Bool}{l:List Bs}(h:l.length<=1000)(hs:∀s∈l,s.length<=1000000):EH [.str top,.slice nl [] (Ay l)]=some (.slice (decide (FV top l=[])) [] (Ay (chB top l))):=
 Bq (mk:=mk134) (a:=(top,nl,l)) mk134_inj ⟨h,hs⟩
def ok134:(Ac EH).ok Qa 134:=by
 refine model_ok ⟨_,func134,by kernel_rfl,by kernel_rfl⟩ λds r hF vs w G hl hrep hgz=>⟨?_,?_⟩
 ·obtain⟨p,_,_,rfl⟩:=E5 hF;rfl
 ·obtain⟨⟨top,nl,l⟩,⟨hlen,hs⟩,rfl,rfl⟩:=E5 hF;simp only at hlen hs
  match vs,hl with
  |[v0,v1],_=>
   have e0:=(hrep 0 _ v0 rfl rfl).str_inv;subst e0;obtain⟨ao,c,rfl,hcell⟩:=strs_cells (hrep 1 _ v1 rfl rfl);refine(w134 w top l ao c hlen hcell (λs hsm w=>?_)).mono ?_
   ·refine(plain_calls ko238 (R238_eq s top (hs s hsm) (restB_len s top)) rfl w).mono ?_;rintro e w' ⟨v,g',rfl,hb,hR⟩;refine⟨?_,hb⟩;obtain⟨us,rfl,hul,hu⟩:=hR.tup_inv
    match us,hul with
    |[u0,u1],_=>
     rw[(hu 0 _ u0 rfl rfl).str_inv,(hu 1 _ u1 rfl rfl).bool_inv]
   ·rintro e w' ⟨v,rfl,hb,⟨rfl,hk⟩|⟨hk,g,cap,rfl,hg1,hg2,hown⟩⟩
    ·refine⟨_,G,rfl,hb,λb h=>hgz b (QF hb.size h),λ_ _=>rfl,?_⟩;have e:chB top l=[]:=by unfold chB srtB;rw[hk,List.mergeSort_nil];rfl
     rw[e,decide_eq_true hk];exact .nils _
    ·refine⟨_,λb=>if b<w.heap.size then G b else if b=g then(chB top l).length else 0,rfl,hb,λb h=>?_,λb h=>if_pos h,?_⟩
     ·show(if _ then _ else _)=_;rw[if_neg (by have:=hb.size;omega),if_neg (by omega)]
     ·rw[decide_eq_false hk];exact own_strs hown (by simp only[Gh.base];rw[if_neg (by omega),if_pos trivial];exact Qe _)
def Dm(l:List Tk)(s:Bs):List Bs:=srtB (ED l l.length s)
def mk131(p:Bool×List Tk×Bs):List D:=[.agg [.slice p.1 [] (Ax p.2.1)],.str p.2.2]
def mk131_inj(x y)(h:mk131 x=mk131 y):x=y:=by
 obtain⟨a,b,c⟩:=x;obtain⟨a',b',c'⟩:=y;simp only[mk131,QW,D.str.injEq,D.slice.injEq,D.agg.injEq,true_and,and_true]at h;obtain⟨⟨rfl,h⟩,rfl⟩:=h;rw[FN h]
def res131(p:Bool×List Tk×Bs):D:=if AY p.2.1 p.2.2=false then .tup [.agg [.slice p.1 [] (Ax p.2.1)],.slice true [] (Ay []),.int .i64 6]
 else .tup [.agg [.slice (decide (DN p.2.1 (Dm p.2.1 p.2.2)=[])) [] (Ax (DN p.2.1 (Dm p.2.1 p.2.2)))],.slice false [] (Ay (Dm p.2.1 p.2.2)),.int .i64 0]
def En:List D->Option D:=FX mk131 (λp=>p.2.1.length<=900∧∃r,TreeT p.2.1 r) res131
def G131_no{nl:Bool}{l:List Tk}{s:Bs}{r:Bs->Nat}(h:l.length<=900)(hr:TreeT l r)(hf:AY l s=false):En [.agg [.slice nl [] (Ax l)],.str s]=some (.tup [.agg [.slice nl [] (Ax l)],.slice true [] (Ay []),.int .i64 6]):=by
 have:=Bq (mk:=mk131) (ok:=λp=>p.2.1.length<=900∧∃r,TreeT p.2.1 r) (res:=res131) (a:=(nl,l,s)) mk131_inj ⟨h,r,hr⟩;rw[show res131 (nl,l,s)=_ from if_pos hf]at this;exact this
def G131_yes{nl:Bool}{l:List Tk}{s:Bs}{r:Bs->Nat}(h:l.length<=900)(hr:TreeT l r)(hf:AY l s=true):En [.agg [.slice nl [] (Ax l)],.str s]=some (.tup [.agg [.slice (decide (DN l (Dm l s)=[])) [] (Ax (DN l (Dm l s)))],.slice false [] (Ay (Dm l s)),.int .i64 0]):=by
 have:=Bq (mk:=mk131) (ok:=λp=>p.2.1.length<=900∧∃r,TreeT p.2.1 r) (res:=res131) (a:=(nl,l,s)) mk131_inj ⟨h,r,hr⟩;rw[show res131 (nl,l,s)=_ from if_neg (by rw[hf];decide)]at this;exact this
def ok131:(Ac En).ok Qa 131:=by
 refine model_ok ⟨_,func131,by kernel_rfl,by kernel_rfl⟩ λds r hF vs w G hl hrep hgz=>⟨?_,?_⟩
 ·obtain⟨p,_,_,rfl⟩:=E5 hF;unfold res131;split<;>rfl
 ·obtain⟨⟨nl,l,s⟩,⟨hlen,rk,hT⟩,rfl,rfl⟩:=E5 hF;simp only at hlen hT
  match vs,hl with
  |[v0,v1],_=>
   have e1:=(hrep 1 _ v1 rfl rfl).str_inv;subst e1;have hr0:=hrep 0 _ v0 rfl rfl;obtain⟨us,rfl,hul,hu1,hu⟩:=A3.ofAgg hr0
   match us,hul with
   |[u0],_=>
    have hr1:=hu 0 _ u0 rfl rfl;obtain⟨ao,c,rfl,hin⟩:=tks_cells hr1;have h93:∀wx,Below w.heap.size w wx->Calls Qa 93 #[.agg #[.slice ao l.length c],encStr s] wx λe w'=>e= .returned (.tuple #[.int .i64 (bsE l s:Int),.bool (AY l s)])∧Below wx.heap.size wx w':=λwx hb=>by
     refine(ok_calls (vs:=[.agg #[.slice ao l.length c],encStr s]) (G:=G) ok93 (F93_eq (nl:=nl) (t:=[]) (l:=l) (s:=s) (by omega)) rfl rfl rfl (λj d v hd hv=>?_) (λb h=>hgz b (QF hb.size h))).mono ?_
     ·match j,hd,hv with
      |0,hd,hv=>cases hd;cases hv;exact rep_later hr0 rfl hgz hb (λ_ _=>Qe _)
      |1,hd,hv=>cases hd;cases hv;exact .str _
     ·rintro e w' ⟨v,g',rfl,hb',hR⟩;refine⟨?_,hb'⟩;obtain⟨us,rfl,hul,hu⟩:=hR.tup_inv
      match us,hul with
      |[u0,u1],_=>rw[(hu 0 _ u0 rfl rfl).int_inv,(hu 1 _ u1 rfl rfl).bool_inv]
    cases hf:AY l s with
    |false=>
     rw[hf]at h93;refine(w131n w l ao c s _ h93).mono ?_;rintro e w' ⟨rfl,hb⟩;refine⟨_,G,rfl,hb,λb h=>hgz b (QF hb.size h),λ_ _=>rfl,?_⟩;rw[show res131 (nl,l,s)=_ from if_pos hf];refine .tup _ [_,_,_] rfl (λj d v hd hv=>?_)
     match j,hd,hv with
     |0,hd,hv=>cases hd;cases hv;exact rep_later hr0 rfl hgz hb (λ_ _=>Qe _)
     |1,hd,hv=>cases hd;cases hv;exact .nils _
     |2,hd,hv=>cases hd;cases hv;exact .int _ _
    |true=>
     rw[hf]at h93;have h236:∀(wx:World)(v:Value)(ys:List Bs)(n:Bs),wx.ownsRow w.heap.size 9 1 v ys.length (ys.map encStr)->ys≠[]->ys.length<=1000->(v= .slice none 0 0↔ys=[])->Calls Qa 236 #[v,encStr n] wx λe w'=>e= .returned (.bool (hasSt ys n))∧Below wx.heap.size wx w':=λwx v ys n ho hne hle hnil=>by
      obtain⟨g,cap,rfl,hg1,hg2,_⟩:=Lib.holds_of_ownsRow ho (λe=>hne (hnil.1 e));refine(ok_calls (vs:=[.slice (some ⟨g,0,none⟩) ys.length cap,encStr n]) (G:=λb=>if b=g then ys.length else 0) ko236 (R236_eq (nl:=false) (l:=ys) n (by omega)) rfl rfl rfl (λj d v hd hv=>?_) (λb h=>if_neg (by omega))).mono ?_
      ·match j,hd,hv with
       |0,hd,hv=>cases hd;cases hv;exact own_strs ho (by simp[Gh.base])
       |1,hd,hv=>cases hd;cases hv;exact .str _
      ·rintro e w' ⟨v,g',rfl,hb',hR⟩;exact⟨by rw[hR.bool_inv],hb'⟩
     refine(w131y w G l ao c s _ rk hlen hin hT h93 h236).mono ?_;rintro e w' ⟨gv,lv,ps,rfl,hb,hog,hgn,hol,hln,hps,hRp⟩;have hl2:(Dm l s).length=(ED l l.length s).length:=Qw _;rw[←hl2]at hog;obtain⟨gb,cap,rfl,hg1,hg2,_⟩:=Lib.holds_of_ownsRow hog hgn;have hlt:=hol.lt;rw[show res131 (nl,l,s)=_ from if_neg (show ¬AY l s=false by rw[hf];decide)];have hne:lv.ownBlock≠some gb:=λe=>by
      rcases hog.2 with ⟨h0,_⟩|⟨g',cap',cur,hv,_,hh,_⟩
      ·cases h0
      ·cases hv;exact own_ne hol hh (by decide) e.symm
     have hsz:=hb.size
     let G':Nat->Nat:=λb=>if b<w.heap.size then G b else if b=gb then(Dm l s).length else if some b=lv.ownBlock then ps.length*3 else 0
     have hG1:∀b,b<w.heap.size->G' b=G b:=λb h=>if_pos h
     refine⟨_,G',rfl,hb,λb h=>?_,hG1,?_⟩
     ·show(if _ then _ else _)=_;rw[if_neg (by omega),if_neg (by omega),if_neg (λe=>by have:=(hlt b e.symm).2;omega)]
     ·refine .tup _ [_,_,_] rfl (λj d v hd hv=>?_)
      match j,hd,hv with
      |0,hd,hv=>
       cases hd;cases hv;refine .agg _ [lv] rfl (λv hv=>?_) (λj d v hd hv=>?_)
       ·rw[Qy.1 hv];rcases hol.2 with ⟨h,_⟩|⟨_,_,_,h,_⟩<;>rw[h]<;>rfl
       ·match j,hd,hv with
        |0,hd,hv=>
         cases hd;cases hv;have:=own_tks (g:=Gh.base G') hol hln (λp hp=>rep_later (hRp p hp) rfl hgz hb (λb h=>Nat.le_of_eq (hG1 b h).symm)) (λb hbk=>by
          show _<=(if _ then _ else _);rw[if_neg (by have:=(hlt b hbk).1;omega),if_neg (λe=>hne (by rw[hbk,e])),if_pos hbk.symm];exact Qe _)
         rw[hps]at this;exact this
      |1,hd,hv=>
       cases hd;cases hv;exact own_strs hog (by
        show _<=(if _ then _ else _);rw[if_neg (by omega),if_pos rfl];exact Qe _)
      |2,hd,hv=>cases hd;cases hv;exact .int _ _
end Go.Vd
namespace Go.Vd
open Go.Proofs Go.RowKit
def chk_mem{a:Ak}:∀{l:Bs} {b:Ak},(chkR a b l).1=0->∀c∈l,BV a (c.toNat:Int)=0
 |[],b,h,c,hc=>by cases hc
 |x::r,b,h,c,hc=>by
  unfold chkR at h;split at h
  ·rename_i h1;exact absurd h h1
  ·rename_i h1;rcases Qh.1 hc with rfl|hc
   ·exact Decidable.not_not.1 h1
   ·exact chk_mem h c hc
def check_field{a:Ak}(h:Cf a=0){c:UInt8}(hc:c∈CS a.op):BV a (c.toNat:Int)=0:=by
 unfold Cf at h;split at h
 ·cases h
 ·split at h
  ·rename_i h1;exact absurd h h1
  ·rename_i h1;exact chk_mem (Decidable.not_not.1 h1) c hc
def check_path{a:Ak}(h:Cf a=0)(hc:(112:UInt8)∈CS a.op):AP a.pa=0:=check_field h hc
def check_other{a:Ak}(h:Cf a=0)(hc:(113:UInt8)∈CS a.op):AP a.ot=0:=check_field h hc
def forms_112:∀op:Nat,9<=op->op<=18->(112:UInt8)∈CS (op:Int):=by
 intro op h1 h2;have:∀op,op<19->9<=op->(112:UInt8)∈CS (op:Nat):=by decide+kernel
 exact this op (by omega) h1
def path_of{a:Ak}(h:Cf a=0)(h1:9<=a.op)(h2:a.op<=18):AP a.pa=0:=by
 have:=forms_112 a.op.toNat (by omega) (by omega);rw[QP (by omega)]at this;exact check_path h this
def other_of{a:Ak}(h:Cf a=0)(h1:a.op=18):AP a.ot=0:=by
 refine check_other h ?_;rw[h1];decide+kernel
def B8{s:Bs}(h:AP s=0):s.length<=64:=by
 unfold AP at h;split at h
 ·cases h
 ·omega
def ryE_T{y:Ry}(h:ryE y=0):ryT y≠[]:=by
 unfold ryT;rw[if_pos h];intro e;have h2:=ryW_ne y;cases y<;>simp[ryW,spJ,Lib.join]at e<;>(try split at e)<;>simp[]at e
def Gr(s:Bs):Prop:=∃y,ryE y=0∧ryN y∧s=ryT y
def Gr.ne{s:Bs}:Gr s->s≠[]:=λ⟨y,h,_,e⟩=>by rw[e];exact ryE_T h
def hexD_48(d:Nat)(h:d<16):48<=(E9 d).toNat:=by
 by_cases h1:d<10
 ·rw[C6 d h1];omega
 ·rw[hexD_let d h (by omega)];omega
def hexB_48(s:Bs):∀c∈Fa s,48<=c.toNat:=λc hc=>by
 unfold Fa at hc;rw[Zn]at hc;obtain⟨b,_,hb⟩:=hc;have:=b.toNat_lt;simp only[Qh,Qm,or_false]at hb;rcases hb with rfl|rfl<;>exact hexD_48 _ (by omega)
def join_mem{q:UInt8}:∀{l:List Bs} {c:UInt8},c∈Lib.join l [q]->c=q∨∃w∈l,c∈w
 |[],c,h=>by simp[Lib.join]at h
 |[x],c,h=> .inr ⟨x,Zo _,by simpa[Lib.join]using h⟩
 |x::y::r,c,h=>by
  have e:Lib.join (x::y::r) [q]=x++q::Lib.join (y::r) [q]:=by simp[Lib.join]
  rw[e]at h;rcases QH.1 h with h|h
  ·exact .inr ⟨x,Qp ..,h⟩
  ·rcases Qh.1 h with h|h
   ·exact .inl h
   ·rcases join_mem h with h|⟨w,hw,h⟩
    ·exact .inl h
    ·exact .inr ⟨w,Qx _ hw,h⟩
def listW_32{l:List Bs}(h:∀w∈l,(32:UInt8)∉w):(32:UInt8)∉Dj l:=λhc=>by
 unfold Dj at hc;split at hc
 ·cases hc with|tail _ h=>cases h
 ·rcases join_mem hc with e|⟨w,hw,e⟩
  ·cases e
  ·exact h w hw e
def nm_has{s:Bs}(h:nmB s=true):(32:UInt8)∉s∧(44:UInt8)∉s∧s≠[45]∧s.length<=64:=by
 simp only[nmB,hasB1,Qu,decide_eq_true_eq,Bool.not_eq_true',QY,beq_iff_eq]at h;exact⟨λe=>h.2.2.2.1 _ e rfl,λe=>h.2.2.2.2 _ e rfl,h.2.1,h.2.2.1⟩
def num_32(n:Nat)(h:n<1000):(32:UInt8)∉BZ n:=λhc=>absurd (numB_dig n h 32 hc).1 (by decide)
def names_all{l:List Bs}(h:(l.any λs=>!nmB s)=false):∀s∈l,nmB s=true:=λs hs=>by
 have:=QY.1 h s hs;simpa using this
def ryW_32{y:Ry}(h:ryE y=0)(hn:ryN y):∀w∈ryW y,(32:UInt8)∉w:=by
 have hG:=ry_good h hn;cases y with
 |fail e=>
  have he:=hG.2;simp only[ryW,Qi];exact⟨by decide,num_32 _ (by omega),λ_ h=>nomatch h⟩
 |done=>simp only[ryW,Qi];exact⟨by decide,λ_ h=>nomatch h⟩
 |number n=>
  have he:=hG.2;simp only[ryW,Qi];exact⟨by decide,by decide,num_32 _ (by omega),λ_ h=>nomatch h⟩
 |found n d=>
  have he:=hG.2.1;simp only[ryW,Qi];refine⟨by decide,by decide,num_32 _ (by omega),?_,λ_ h=>nomatch h⟩;split
  ·decide
  ·exact λhc=>absurd (hexB_48 d 32 hc) (by decide)
 |about s=>
  obtain⟨g1,g2,g3,g4⟩:=hG;simp only[ryW,Qi];refine⟨by decide,by decide,num_32 _ (by omega),by split<;>decide,num_32 _ (by omega),listW_32 λw hw=>?_,λ_ h=>nomatch h⟩;obtain⟨x,hx,rfl⟩:=Qn.1 hw;intro hc;rcases rowW1_ne x (g4 x hx) 32 hc with h|h|h
  ·cases h
  ·cases h
  ·exact absurd h.1 (by decide)
 |names nl l=>
  simp only[ryE]at h;split at h
  ·rename_i c;simp only[ryW,Qi];exact⟨by decide,by decide,listW_32 λw hw=>(nm_has (names_all c.2 w hw)).1,λ_ h=>nomatch h⟩
  ·omega
 |state b=>cases b<;>(simp only[ryW,if_true,if_false,Bool.false_eq_true,Qi];exact⟨by decide,by decide,λ_ h=>nomatch h⟩)
def psd_T{y:Ry}(h:ryE y=0)(hn:ryN y):Psd (ryT y) (.tup [.agg (ryC (ryQ y)),.int .i64 0])∧(ryT y).length<=1000000:=by
 have hT:ryT y=Lib.join (ryW y) [32]:=if_pos h;have hs:splitC 32 (ryT y)=ryW y:=by rw[hT];exact Gk (ryW_ne y) (ryW_32 h hn)
 obtain⟨w1,w2⟩:=ryW_sum h hn;have hl:(ryT y).length<=1000000:=by
  rw[hT];have:=Ea (ryW y) [32];simp only[gB3]at this;omega
 refine⟨?_,hl⟩;cases y with
 |fail e=>
  simp only[ryE]at h;split at h
  ·rename_i c;exact .fail e _ c hs
  ·omega
 |names nl l=>
  refine .ok _ _ (ry_good h hn) ?_ h hs;simp only[ryE]at h;split at h
  ·rename_i c;refine⟨λw hw=>(nm_has (names_all c.2 w hw)).2.1,λe=>?_,by have:=sum_64 l c.2;omega⟩;rw[e]at c;exact absurd (nm_has (names_all c.2 [45] (Zo _))).2.2.1 (by decide)
  ·omega
 |_=>exact .ok _ _ (ry_good h hn) trivial h hs
end Go.Vd
namespace Go.Vd
open Go.Proofs
def dc11l0:=y1 f11 3 [] []
def dc11l1:=y1 f11 7 [] []
def dc11:=y0 f11 [] [(3,dc11l0),(7,dc11l1)]
def fn11:Fn Qa 11 55 dc11 [.cell (some 5) 2]:=Am func11
end Go.Vd
namespace Go.Vd
open Go.Proofs Go.RowKit
def ownK(d:Dk):Kn:=⟨d.its,d.lss⟩
def S11:Summs:=AF [(12,Ac R12),(13,Ac R13)]
def R11:List D->Option D:=RF S11 dc11 [.cell (some 5) 2] 55
def ko11:(Ac R11).ok Qa 11:=AH fn11 (Ab ko12 (Ab ko13 Ad))
def R11_eq(d:Dk)(hd:DkOk d):R11 [.agg (dkC d)]=some (.agg (kwC (ownK d))):=by
 refine AG (Qb rfl) ?_;have s13:S11 13=some (Ac R13):=rfl;unfold dc11;obtain⟨l1,l2,ls⟩:=hd;have e0:∀k:Kn,(kwC k).length=5:=λ_=>rfl
 have u1:∀k:Kn,(kwC k).map D.un1=kwC k:=λ_=>rfl
 have u2:∀k:Kn,(kwC k).all D.calm1=true:=λ_=>rfl
 unfold dkC ownK;simp only[↓go1,go2,go3,go5,Qq];refine Bm (n:=d.its.length) (I:=λj st=>st.s 1= .ptr [0] 0∧st.s 2= .ptr [1] 0∧st.s 3= .ptr [2] 0∧st.s 4= .int .i64 (j:Int)∧st.m [0] 0=some (.slice d.n1 [] (d.its.map itD))∧st.m [0] 1=some (.slice d.n2 [] (d.lss.map ltD))∧Ag st.m [1] 0 5=some (kwC ⟨[],[]⟩)∧Ag st.m [2] 0 5=some (kwC ⟨d.its.take j,[]⟩)) (λj hj ih st g hI=>?_) (λst g hI=>?_) 0 (Qg _) _ _ ⟨rfl,rfl,rfl,rfl,rfl,rfl,rfl,rfl⟩
 ·obtain⟨st_s,st_m,st_c⟩:=st;obtain⟨h1,h2,h3,h4,m0,m1,m2,m3⟩:=hI;simp only at h1 h2 h3 h4 m0 m1 m2 m3;refine Ae dc11l0.eq_1 ?_;have hlt:((j:Int)<d.its.length):=by omega
  have hj0:=nJ (j:=j);have hw:=wJ (j:=j) (by omega);have hat:(d.its.map itD)[j]?=some (.agg [.str d.its[j].1,.str d.its[j].2.1,.bool d.its[j].2.2]):=by simp[Qd hj,itD]
  have h12:=R12_eq ⟨d.its.take j,[]⟩ d.its[j].1 d.its[j].2.1 d.its[j].2.2 (by simp;omega);have ht:d.its.take j++[(d.its[j].1,d.its[j].2.1,d.its[j].2.2)]=d.its.take (j+1):=by rw[List.take_add_one,Qd hj];rfl
  simp only[ht]at h12;generalize d.its[j]=x at *;simp (disch:=omega)only[↓go1,gB2,simprocAttr,Q9,Zy,List.head?_cons,h1,h3,h4,hlt,hj0,Qo,m0,m3,hat,Qk,gB3,Q_,An S11 12,h12,u1,u2,e0,QV,and_self];refine Ao.intro (λp hp=>by cases hp) ?_;simp (disch:=omega)only[↓go1,go2,simprocAttr,h4,hw];refine ih _ _ ?_;exact⟨h1,h2,h3,rfl,m0,m1,m2,AO rfl⟩
 ·obtain⟨st_s,st_m,st_c⟩:=st;obtain⟨h1,h2,h3,h4,m0,m1,m2,m3⟩:=hI;simp only at h1 h2 h3 h4 m0 m1 m2 m3;refine Ae dc11l0.eq_1 ?_;have hlt:((d.its.length:Int)<d.its.length)=False:=eq_false (by omega);have hj0:True:=trivial;have hat:True:=trivial;simp (disch:=omega)only[↓go1,go2,go4,simprocAttr,h1,h4,hlt,m0,Qk,Q_];rw[Q1]at m3;refine Bm (n:=d.lss.length) (I:=λj st=>st.s 1= .ptr [0] 0∧st.s 2= .ptr [1] 0∧st.s 3= .ptr [2] 0∧st.s 5= .int .i64 (j:Int)∧st.m [0] 1=some (.slice d.n2 [] (d.lss.map ltD))∧Ag st.m [1] 0 5=some (kwC ⟨[],[]⟩)∧Ag st.m [2] 0 5=some (kwC ⟨d.its,d.lss.take j⟩)) (λj hj ih st g hI=>?_) (λst g hI=>?_) 0 (Qg _) _ _ ⟨h1,h2,h3,rfl,m1,m2,m3⟩
  ·obtain⟨st_s,st_m,st_c⟩:=st;obtain⟨h1,h2,h3,h4,m1,m2,m3⟩:=hI;simp only at h1 h2 h3 h4 m1 m2 m3;refine Ae dc11l1.eq_1 ?_;have hlt:((j:Int)<d.lss.length):=by omega
   have hj0:=nJ (j:=j);have hw:=wJ (j:=j) (by omega);have hat:(d.lss.map ltD)[j]?=some (.agg [.str d.lss[j].1,.slice d.lss[j].2.1 [] (Ay d.lss[j].2.2)]):=by simp[Qd hj,ltD]
   have hmem:=ls _ (QC hj);have h13:=R13_eq ⟨d.its,d.lss.take j⟩ d.lss[j].1 d.lss[j].2.1 d.lss[j].2.2 (by simp;omega) (by omega) hmem.2;have ht:d.lss.take j++[(d.lss[j].1,d.lss[j].2.1,d.lss[j].2.2)]=d.lss.take (j+1):=by rw[List.take_add_one,Qd hj];rfl
   simp only[ht]at h13;generalize d.lss[j]=x at *;simp (disch:=omega)only[↓go1,gB2,simprocAttr,Q9,Zy,List.head?_cons,h1,h3,h4,hlt,hj0,Qo,m1,m3,hat,Qk,gB3,Q_,Aa s13,h13,u1,u2,e0,QV,and_self];refine Ao.intro (λp hp=>by cases hp) ?_;simp (disch:=omega)only[↓go1,go2,simprocAttr,h4,hw];refine ih _ _ ?_;exact⟨h1,h2,h3,rfl,m1,m2,AO rfl⟩
  ·obtain⟨st_s,st_m,st_c⟩:=st;obtain⟨h1,h2,h3,h4,m1,m2,m3⟩:=hI;simp only at h1 h2 h3 h4 m1 m2 m3;refine Ae dc11l1.eq_1 ?_;have hlt:((d.lss.length:Int)<d.lss.length)=False:=eq_false (by omega);rw[Q1]at m3;simp (disch:=omega)only[↓go1,gB2,simprocAttr,h1,h2,h3,h4,hlt,m1,m2,m3,Qk,Q_,e0,QV,and_self];rw[Bk];simp only[↓go1,go2,simprocAttr,h2,AX,AO (e0 _)]
   all_goals first|rfl|exact⟨rfl,rfl⟩
def CleanB(s:Bs):Prop:=∀c∈s,c≠32∧c≠44
def clean_at{s:Bs}(h:∀j,j<s.length->at' s j≠32∧at' s j≠44):CleanB s:=λc hc=>by
 obtain⟨j,hj,rfl⟩:=Q5 hc;have:=h j hj;unfold at' at this;rw[QG,Qd hj]at this;simp only[QS]at this;exact⟨λe=>by rw[e]at this;exact this.1 rfl,λe=>by rw[e]at this;exact this.2 rfl⟩
def clean_has{s:Bs}(h:CleanB s):hasB1 s 32=false∧hasB1 s 44=false:=by
 constructor<;>(unfold hasB1;rw[QY];intro c hc;simp only[beq_iff_eq])
 ·exact(h c hc).1
 ·exact(h c hc).2
def nmB_of{s:Bs}(h:CleanB s)(h1:s≠[])(h2:s≠[45])(h3:s.length<=64):nmB s=true:=by
 unfold nmB;obtain⟨a,b⟩:=clean_has h;simp[h1,h2,h3,a,b]
def next_clean{s:Bs}{i:Nat}(hi:i<s.length)(h:Db (CI s i).1=true):1<=(CI s i).2∧∀j,i<=j->j<i+(CI s i).2->at' s j≠32∧at' s j≠44:=by
 have b0:=at_lt s i;have c1:=@Cs s (i+1);have c2:=@Cs s (i+2);have c3:=@Cs s (i+3);have hcase:∀j,j<i+4->i<=j->j=i∨j=i+1∨j=i+2∨j=i+3:=by omega
 unfold CI at h ⊢;simp only at h ⊢;split at h
 ·rename_i h1;rw[if_pos h1];refine⟨Qe _,λj h2 h3=>?_⟩;obtain rfl:j=i:=by omega
  unfold Db at h;simp only[Bool.or_eq_true,decide_eq_true_eq]at h;omega
 ·rename_i h0;rw[if_neg h0];split at h
  ·rename_i h1;rw[if_pos h1];refine⟨by simp only;omega,λj h2 h3=>?_⟩;have:=c1.1 h1.2.2.1;rcases hcase j (by simp only at h3;omega) h2 with rfl|rfl|rfl|rfl<;>first|omega|(simp only at h3;omega)
  ·rename_i h1;rw[if_neg h1];split at h
   ·rename_i h2;rw[if_pos h2];have:=c1.1 h2.2.2.1;have:=c2.1 h2.2.2.2.1;refine⟨by simp only;omega,λj h4 h3=>?_⟩;rcases hcase j (by simp only at h3;omega) h4 with rfl|rfl|rfl|rfl<;>first|omega|(simp only at h3;omega)
   ·rename_i h2;rw[if_neg h2];split at h
    ·rename_i h3;rw[if_pos h3];have:=c1.1 h3.2.2.1;have:=c2.1 h3.2.2.2.1;have:=c3.1 h3.2.2.2.2.1;refine⟨by simp only;omega,λj h4 h5=>?_⟩;rcases hcase j (by simp only at h5;omega) h4 with rfl|rfl|rfl|rfl<;>first|omega|(simp only at h5;omega)
    ·cases h
def signs_clean{s:Bs}:∀(f p n:Nat),s.length<=p+f->C9 s f p n≠4->∀j,p<=j->j<s.length->at' s j≠32∧at' s j≠44
 |0,p,n,hf,h,j,h1,h2=>by omega
 |f+1,p,n,hf,h,j,h1,h2=>by
  unfold C9 at h;rw[if_pos (by omega)]at h;split at h
  ·rename_i h3;obtain⟨hw,hc⟩:=next_clean (by omega) h3;by_cases hj:j<p+(CI s p).2
   ·exact hc j h1 hj
   ·exact signs_clean f _ _ (by omega) h j (by omega) h2
  ·exact absurd rfl h
def part_clean{s:Bs}(h:Et s=0):CleanB s∧s≠[]∧s≠[45]:=by
 unfold Et at h;split at h
 ·cases h
 ·rename_i h1;exact⟨clean_at λj hj=>signs_clean s.length 0 0 (by omega) (by rw[h];decide) j (Qg _) hj,λe=>h1 (.inl e),λe=>h1 (.inr (.inr (.inr e)))⟩
def grade_parts:∀{l:List Bs} {w:Bool},DV w l=some false->∀p∈l,Et p=0
 |[],w,h,p,hp=>by cases hp
 |x::r,w,h,p,hp=>by
  unfold DV at h;split at h
  ·cases h
  ·rename_i h1;have h5:∀{w:Bool} {l:List Bs},DV w l=some false->w=false:=by
    intro w l;induction l generalizing w with
    |nil=>intro h;simpa[DV]using h
    |cons y t ih=>
     intro h;unfold DV at h;split at h
     ·cases h
     ·have:=ih h;rw[Zh]at this;exact this.1
   rcases Qh.1 hp with rfl|hp
   ·have:=h5 h;rw[Zh,decide_eq_false_iff_not]at this;rcases partE_cases p with e|e|e
    ·exact absurd e h1
    ·exact absurd e this.2
    ·exact e
   ·exact grade_parts h p hp
def route_parts{s:Bs}(h:AP s=0):∀p∈splitC 47 s,Et p=0:=by
 unfold AP at h;split at h
 ·cases h
 ·unfold Gu at h;split at h
  ·cases h
  ·rename_i w hw;cases w with
   |true=>simp at h
   |false=>exact grade_parts hw
def split_mid:∀(a b:Bs),splitC 47 (a++47::b)=splitC 47 a++splitC 47 b
 |[],b=>by
  show splitC 47 (47::b)=_
  conv=>lhs;unfold splitC
  rfl
 |c::r,b=>by
  have ih:=split_mid r b;show splitC 47 (c::(r++47::b))=_
  conv=>lhs;unfold splitC
  conv=>rhs;arg 1;unfold splitC
  rw[ih];split
  ·rfl
  ·cases hr:splitC 47 r with
   |nil=>exact absurd hr (splitB_ne r)
   |cons h t=>rfl
def split_cut:∀(s:Bs),∃t,splitC 47 s=(Dt s 47).1::t∧((Dt s 47).2.2=true->(Dt s 47).1.length+1<=s.length)∧((Dt s 47).2.2=false->(Dt s 47).1=s)
 |[]=>⟨[],rfl,λh=>by simp[Dt,Lib.indexByte]at h,λ_=>rfl⟩
 |c::r=>by
  obtain⟨t,h1,h2,h3⟩:=split_cut r;by_cases hc:c=47
  ·subst hc;have e:Lib.indexByte (47::r) 47=0:=by unfold Lib.indexByte;simp
   refine⟨splitC 47 r,?_,?_,?_⟩
   ·unfold Dt;rw[e];conv=>lhs;unfold splitC
    rfl
   ·intro _;unfold Dt;rw[e];simp
   ·intro h;unfold Dt at h;rw[e]at h;simp at h
  ·have hcb:(c==47)=false:=by simpa using hc
   unfold splitC;rw[if_neg hc,h1];refine⟨t,?_⟩;have e:Lib.indexByte (c::r) 47=if Lib.indexByte r 47==-1 then-1 else Lib.indexByte r 47+1:=by
    conv=>lhs;unfold Lib.indexByte
    rw[hcb];rfl
   rcases ixB_bd r 47 with e1|⟨e1,e2⟩
   ·have e3:Dt r 47=(r,[],false):=by unfold Dt;rw[e1];rfl
    have e4:Dt (c::r) 47=(c::r,[],false):=by unfold Dt;rw[e,e1];rfl
    rw[e3,e4];exact⟨rfl,λh=>(by cases h),λ_=>rfl⟩
   ·have e0:(Lib.indexByte r 47==-1)=false:=by rw[beq_eq_false_iff_ne];omega
    have e5:Lib.indexByte (c::r) 47=Lib.indexByte r 47+1:=by rw[e,e0];rfl
    generalize hq:Lib.indexByte r 47=q at *;have e6:(q+1).toNat=q.toNat+1:=by omega
    have e3:Dt r 47=(r.take q.toNat,r.drop (q.toNat+1),true):=by unfold Dt;rw[hq,if_neg (by omega)]
    have e4:Dt (c::r) 47=(c::r.take q.toNat,r.drop (q.toNat+1),true):=by unfold Dt;rw[e5,if_neg (by omega),e6];rfl
    rw[e3,e4];refine⟨rfl,λ_=>?_,λh=>(by cases h)⟩;simp only[QB,Qv];omega
def below_mid{s top:Bs}(h:Co s top=true):C_ s top=s∨s=top++47::C_ s top:=by
 unfold Co at h;unfold C_;by_cases ht:top=[]
 ·rw[if_pos ht];exact .inl rfl
 ·rw[if_neg ht]at h ⊢;rw[Qu]at h;rw[if_pos h.1,if_pos h.2];right;have h1:s.take top.length=top:=by simpa[BN]using h.1
  have h2:(s.drop top.length).take 1=[47]:=by simpa[BN]using h.2
  have e1:s=top++s.drop top.length:=by
   conv=>lhs;rw[←Zf top.length s,h1]
  have e2:s.drop top.length=47::(s.drop top.length).drop 1:=by
   conv=>lhs;rw[←Zf 1 (s.drop top.length),h2]
   rfl
  conv=>lhs;rw[e1,e2]
def child_name{s top:Bs}(hr:AP s=0)(h:(Ce s top).2=true):nmB (Ce s top).1=true:=by
 have hlen:=B8 hr;have hp:=route_parts hr;have hb:Co s top=true:=by
  unfold Ce at h;split at h
  ·cases h
  ·rename_i h1;simpa using h1
 have hm:=below_mid hb;have hl:=restB_len s top;obtain⟨t,e1,e2,e3⟩:=split_cut (C_ s top);have hmem:(Dt (C_ s top) 47).1∈splitC 47 s:=by
  rcases hm with e|e
  ·rw[e]at e1 ⊢;rw[e1];exact Qp ..
  ·rw[e,split_mid,←e,e1];exact List.mem_append_right _ (Qp ..)
 obtain⟨c1,c2,c3⟩:=part_clean (hp _ hmem);unfold Ce;rw[if_neg (by rw[hb];decide)];split
 ·rename_i h1;have:=e2 h1;refine nmB_of (λc hc=>?_) (by simp) (λe=>?_) (by simp;omega)
  ·rcases QH.1 hc with h|h
   ·exact c1 c h
   ·rw[Qy.1 h];decide
  ·have:=congrArg List.getLast? e;simp at this
 ·rename_i h1;have:=e3 (by simpa using h1);rw[this]at c1 c2 c3;exact nmB_of c1 c2 c3 (show(C_ s top).length<=64 by omega)
def name_clean{s:Bs}:∀(f p:Nat),s.length<=p+f->Fj s f p=true->∀j,p<=j->j<s.length->Cy (at' s j)=true
 |0,p,hf,h,j,h1,h2=>by omega
 |f+1,p,hf,h,j,h1,h2=>by
  unfold Fj at h;rw[if_pos (by omega),Qu]at h;by_cases e:j=p
  ·rw[e];exact h.1
  ·exact name_clean f (p+1) (by omega) h.2 j (by omega) h2
def name_nm{s:Bs}(h:Bz s=true):nmB s=true:=by
 unfold Bz at h;simp only[Qu,decide_eq_true_eq]at h;have hc:∀j,j<s.length->Cy (at' s j)=true:=λj hj=>name_clean s.length 0 (by omega) h.2 j (Qg _) hj
 have hb:∀j,j<s.length->at' s j≠32∧at' s j≠44∧at' s j≠45:=λj hj=>by
  have:=hc j hj;unfold Cy at this;simp only[Bool.or_eq_true,decide_eq_true_eq]at this;omega
 refine nmB_of (clean_at λj hj=>⟨(hb j hj).1,(hb j hj).2.1⟩) (λe=>by rw[e]at h;simp at h) (λe=>?_) (by omega);have:=(hb 0 (by omega)).2.2;rw[e]at this;exact this rfl
def compact_mem{zs:List Bs}{x:Bs}(h:x∈Lib.compact zs):x∈zs:=by
 unfold Lib.compact Lib.compactUpTo at h;obtain⟨j,hj,rfl⟩:=Qn.1 h;have h1:=List.mem_range.1 (Zq.1 hj).1;rw[getElem!_pos _ _ (by simpa using h1)];simp
def srt_mem{l:List Bs}{x:Bs}(h:x∈srtB l):x∈l:=(List.mergeSort_perm l _).mem_iff.1 h
def ch_mem{top:Bs}{l:List Bs}{x:Bs}(h:x∈chB top l):∃s∈l,(Ce s top).2=true∧(Ce s top).1=x:=by
 have:=srt_mem (compact_mem h);unfold FV at this;obtain⟨s,hs,e⟩:=List.mem_filterMap.1 this;split at e
 ·rename_i h1;exact⟨s,hs,h1,by simpa using e⟩
 ·cases e
def ch_len(top:Bs)(l:List Bs):(chB top l).length<=l.length:=by
 unfold chB;refine QF (Lib.compact_length_le _) ?_;unfold srtB;rw[Qw];exact Q7 _ _
def paths_route{l:List Bs}{s:Bs}(h:s∈BT l):AP s=0:=by
 unfold BT at h;obtain⟨x,hx,e⟩:=List.mem_filterMap.1 h;split at e
 ·rename_i hc;simp only[Qc]at e;subst e;obtain⟨h1,h2⟩:=hc;unfold Cx at h1 h2 ⊢;split at h1
  ·cases h1
  ·rename_i h3;rw[if_neg h3]at h2 ⊢;have h4:=Decidable.not_not.1 h3;unfold B7 at h4;rw[if_pos h2]at h4;split at h4
   ·rename_i h5;exact h5.2
   ·cases h4
 ·cases e
def paths_len(l:List Bs):(BT l).length<=l.length:=Q7 _ _
def ch_names(top:Bs)(l:List Bs):(((chB top (BT l)).take 64).any λs=>!nmB s)=false:=by
 rw[QY];intro x hx;obtain⟨s,hs,h1,rfl⟩:=ch_mem (QD hx);rw[child_name (paths_route hs) h1];decide
def gradeE_bd(l:List Bs):0<=Gu l∧Gu l<=99:=by
 unfold Gu;split
 ·decide
 ·repeat' split
  all_goals decide
def routeE_bd(s:Bs):0<=AP s∧AP s<=99:=by
 unfold AP;split
 ·decide
 ·exact gradeE_bd _
def fineE_bd(b:Bool):0<=Fq b∧Fq b<=99:=by cases b<;>decide
def ruleE_bd(r:Rl)(l:List Rl):0<=EM r l∧EM r l<=99:=by
 unfold EM;have:=routeE_bd r.1
 repeat' split
 all_goals omega
def rulesE_bd(l:List Rl):∀f j,0<=CW l f j∧CW l f j<=99
 |0,j=>by unfold CW;decide
 |f+1,j=>by
  unfold CW;have:=ruleE_bd (Bp l j) (l.take j);have:=rulesE_bd l f (j+1)
  repeat' split
  all_goals omega
def polE_bd(l:List Rl):0<=Cm l∧Cm l<=99:=by
 unfold Cm;have:=rulesE_bd l l.length 0;split<;>omega
def fieldE_bd(a:Ak)(c:Int):0<=BV a c∧BV a c<=99:=by
 unfold BV;have:=routeE_bd a.pa;have:=routeE_bd a.ot;have:=polE_bd a.rs
 repeat' split
 all_goals first|exact fineE_bd _|omega
def chkR_bd(a:Ak):∀(l:Bs)(b:Ak),0<=(chkR a b l).1∧(chkR a b l).1<=99
 |[],b=>by unfold chkR;simp
 |c::r,b=>by
  unfold chkR;have:=fieldE_bd a (c.toNat:Int);have:=chkR_bd a r (D5 b (c.toNat:Int));split<;>omega
def checkA_bd(a:Ak):0<=Cf a∧Cf a<=99:=by
 unfold Cf;have:=chkR_bd a (CS a.op) (bareA a)
 repeat' split
 all_goals omega
def refA_bd(v:Vw)(a:Ak):0<=Ds v a∧Ds v a<=99:=by
 unfold Ds;have:=checkA_bd a
 repeat' split
 all_goals omega
def check_zero{v:Vw}{a:Ak}(h:Ds v a=0):Cf a=0:=by
 unfold Ds at h;split at h
 ·rename_i h1;exact absurd h h1
 ·rename_i h1;exact Decidable.not_not.1 h1
def op_of{a:Ak}(h:Cf a=0)(h0:0<=a.op):1<=a.op∧a.op<=18:=by
 have hf:formW a.op≠[]:=λe=>by unfold Cf at h;rw[if_pos e]at h;cases h
 unfold formW at hf;have h1:a.op.toNat<19:=by
  rcases Zj a.op.toNat 19 with h|h
  ·exact h
  ·rw[QG,List.getElem?_eq_none (by simpa[forms]using h)]at hf;exact absurd rfl hf
 have h2:a.op.toNat≠0:=λe=>by rw[e]at hf;exact hf rfl
 omega
def tokE_bd(n p:Bs)(l:List Rl):0<=Gg n p l∧Gg n p l<=99:=by
 unfold Gg;have:=polE_bd l
 repeat' split
 all_goals omega
def tokE_name{n p:Bs}{l:List Rl}(h:Gg n p l=0):Bz n=true:=by
 unfold Gg at h;split at h
 ·cases h
 ·rename_i h1;simpa using h1
def makeT_bd(l:List Tk)(k:Tk):((∃l',DB l k=(some l',0))∧Gg k.1 k.2.1 k.2.2.2=0∧k.2.1≠[]∧AY l k.1=false∧AY l k.2.1=true∧(DB l k).1=some (Eo l k))∨((DB l k).1=none∧1<=(DB l k).2∧(DB l k).2<=99):=by
 unfold DB;have h:=tokE_bd k.1 k.2.1 k.2.2.2;by_cases h1:Gg k.1 k.2.1 k.2.2.2≠0
 ·rw[if_pos h1];exact .inr ⟨rfl,by simp only;omega⟩
 rw[if_neg h1];by_cases h2:k.2.1=[]
 ·rw[if_pos h2];exact .inr ⟨rfl,by decide,by decide⟩
 rw[if_neg h2];by_cases h3:AY l k.1=true
 ·rw[if_pos h3];exact .inr ⟨rfl,by decide,by decide⟩
 rw[if_neg h3];by_cases h4:AY l k.2.1=false
 ·rw[if_pos h4];exact .inr ⟨rfl,by decide,by decide⟩
 rw[if_neg h4];by_cases h5:DI k.2.2.2 (AQ l (bsE l k.2.1)).2.2.2=false
 ·rw[if_pos h5];exact .inr ⟨rfl,by decide,by decide⟩
 rw[if_neg h5];exact .inl ⟨⟨_,rfl⟩,Decidable.not_not.1 h1,h2,by simpa using h3,by simpa using h4,rfl⟩
structure InvT (l:List Tk):Prop where
 sort:C8 l
 tree:∃r,TreeT l r∧r []=0
 name:∀k∈l,Bz k.1=true
 par:∀k∈l,k.2.1=[]∨∃u∈l,u.1=k.2.1
def sort_pair{l:List Tk}(h:C8 l):l.Pairwise λt u=>t.1≠u.1:=by
 rw[List.pairwise_iff_getElem];intro i j hi hj hij e;have:=h i j hij hj;unfold AQ at this;rw[QG,QG,Qd hi,Qd hj]at this;simp only[QS]at this;rw[e,bl_irr]at this;cases this
def found_mem{l:List Tk}{s:Bs}(h:AY l s=true):∃k∈l,k.1=s:=by
 unfold AY at h;rw[Qu,decide_eq_true_eq,cmpS_zero,decide_eq_true_eq]at h;exact⟨_,tkAt_mem h.1,h.2⟩
def found_no{l:List Tk}{s:Bs}(hs:C8 l)(h:AY l s=false):∀k∈l,k.1≠s:=λk hk e=>by
 obtain⟨j,hj,rfl⟩:=Q5 hk;have:=(found_at hs hj).2;unfold AQ at this;rw[QG,Qd hj]at this;simp only[QS]at this;rw[e,h]at this;cases this
def name_ne{s:Bs}(h:Bz s=true):s≠[]:=λe=>by rw[e]at h;cases h
def FJ{l:List Tk}{k x:Tk}:x∈Eo l k↔x∈l∨x=k:=by
 unfold Eo;rw[QH,Qh];constructor
 ·rintro(h|h|h)
  ·exact .inl (QD h)
  ·exact .inr h
  ·exact .inl (QZ h)
 ·rintro(h|h)
  ·rw[←Zf (bsE l k.1) l,QH]at h;rcases h with h|h
   ·exact .inl h
   ·exact .inr (.inr h)
  ·exact .inr (.inl h)
def with_len(l:List Tk)(k:Tk):(Eo l k).length=l.length+1:=by
 unfold Eo;rw[Qf,QB,Qv,QM];omega
def inv_with{l:List Tk}{k:Tk}(h:InvT l)(h1:Gg k.1 k.2.1 k.2.2.2=0)(h2:AY l k.1=false)(h3:AY l k.2.1=true):InvT (Eo l k):=by
 obtain⟨r,hr,r0⟩:=h.tree;have hn:=tokE_name h1;have hs:C8 (Eo l k):=sortT_mid h.sort h2;have hno:=found_no h.sort h2;obtain⟨u,hu,hu2⟩:=found_mem h3;have hpk:k.2.1≠k.1:=λe=>hno u hu (hu2.trans e)
 refine⟨hs,⟨λs=>if s=k.1 then l.length+1 else r s,⟨λt ht=>?_,λt ht=>?_,sort_pair hs⟩,?_⟩,λt ht=>?_,λt ht=>?_⟩
 ·rcases FJ.1 ht with ht|rfl
  ·have e1:t.1≠k.1:=hno t ht;have e2:t.2.1≠k.1:=λe=>by
    rcases h.par t ht with e3|⟨x,hx,e3⟩
    ·exact name_ne hn (e.symm.trans e3)
    ·exact hno x hx (e3.trans e)
   simp only[if_neg e1,if_neg e2];exact hr.up t ht
  ·simp only[if_neg hpk,if_true];have:=hr.top u hu;rw[hu2]at this;omega
 ·rw[with_len];rcases FJ.1 ht with ht|rfl
  ·simp only[if_neg (hno t ht)];have:=hr.top t ht;omega
  ·simp
 ·show(if([]:Bs)=k.1 then _ else _)=_;rw[if_neg (λe=>name_ne hn e.symm)];exact r0
 ·rcases FJ.1 ht with ht|rfl
  ·exact h.name t ht
  ·exact hn
 ·rcases FJ.1 ht with ht|rfl
  ·rcases h.par t ht with e|⟨x,hx,e⟩
   ·exact .inl e
   ·exact .inr ⟨x,FJ.2 (.inl hx),e⟩
  ·exact .inr ⟨u,FJ.2 (.inl hu),hu2⟩
def inv_first:InvT [firstTk]:=by
 refine⟨λi j h1 h2=>by simp at h2;omega,⟨λs=>if s=[]then 0 else 1,⟨λt ht=>?_,λt ht=>?_,List.pairwise_singleton _ _⟩,rfl⟩,λt ht=>?_,λt ht=>?_⟩
 ·rw[Qy.1 ht];decide
 ·rw[Qy.1 ht];decide
 ·rw[Qy.1 ht];decide
 ·rw[Qy.1 ht];exact .inl rfl
def inv_fold:∀(ks:List Tk)(s:Bool×List Tk),InvT s.2->s.1=false->InvT (ks.foldl Bg s).2∧(ks.foldl Bg s).1=false∧(ks.foldl Bg s).2.length<=s.2.length+ks.length
 |[],s,h,h0=>⟨h,h0,Qe _⟩
 |k::ks,s,h,h0=>by
  rw[List.foldl_cons];have step:InvT (Bg s k).2∧(Bg s k).1=false∧(Bg s k).2.length<=s.2.length+1:=by
   unfold Bg;rcases makeT_bd s.2 (ownT k)with ⟨_,h1,_,h2,h3,h4⟩|⟨h1,_⟩
   ·rw[h4];exact⟨inv_with h h1 h2 h3,rfl,by rw[with_len];exact Qe _⟩
   ·rw[h1];exact⟨h,h0,Nat.le_succ _⟩
  obtain⟨a,b,c⟩:=inv_fold ks _ step.1 step.2.1;exact⟨a,b,by rw[QB];omega⟩
end Go.Vd
namespace Go.Vd
open Go.Proofs
def dc96:=y0 f96 [] []
def fn96:Fn Qa 96 39 dc96 [.t 2]:=Am func96
def dc37l0:=y1 f37 4 [] []
def dc37:=y0 f37 [] [(4,dc37l0)]
def fn37:Fn Qa 37 21 dc37 [.t 2]:=Am func37
end Go.Vd
namespace Go.Vd
open Go.Proofs Go.RowKit
def opV(x:Op1):Prop:=x.2.1.length<=100∧x.2.2.length<=900∧((x.1=1∧x.2.1≠[])∨(x.1=2∧x.2.1≠[]∧x.2.2=[])∨(x.1=3∧x.2.2=[]))
def S96:Summs:=AF []
def R96:List D->Option D:=RF S96 dc96 [.t 2] 39
def ko96:(Ac R96).ok Qa 96:=AH fn96 Ad
def R96_eq(x:Op1)(h:opV x):R96 [opD x]=some (.int .i64 0):=by
 refine AG (Qb rfl) ?_;unfold dc96;obtain⟨k,key,val⟩:=x;obtain⟨h1,h2,h3⟩:=h;simp only at h1 h2 h3;have e1:((100:Int)<key.length)=False:=eq_false (by omega);have e2:((900:Int)<val.length)=False:=eq_false (by omega);unfold opD;rcases h3 with ⟨rfl,hk⟩|⟨rfl,hk,rfl⟩|⟨rfl,rfl⟩
 ·have hk':=eq_false hk;simp only[gB1,↓go1,go5,reduceIte,Qj,Qq,Q2,QT,Q8,reduceCtorEq,Zc,Zd,Ze,Q0,e1,e2,hk']
  all_goals first|rfl|exact⟨rfl,rfl⟩|simp[*]
 ·have hk':=eq_false hk;simp only[gB1,↓go1,go5,reduceIte,Qj,Qq,Q2,QT,Q8,reduceCtorEq,Zc,Zd,Ze,Q0,e1,e2,hk']
  all_goals first|rfl|exact⟨rfl,rfl⟩|simp[*]
 ·simp only[gB1,↓go1,go5,reduceIte,Qj,Qq,Q2,QT,Q8,reduceCtorEq,Zc,Zd,Ze,Q0,e1,e2]
  all_goals first|rfl|exact⟨rfl,rfl⟩|simp[*]
def opsD_at2{l:List Op1}{j:Nat}(hj:j<l.length):(Da l)[j]?=some (.agg [.int .u8 l[j].1,.str l[j].2.1,.str l[j].2.2]):=by
 simp[Da,opD,hj]
def S37:Summs:=AF [(96,Ac R96)]
def R37:List D->Option D:=RF S37 dc37 [.t 2] 21
def ko37:(Ac R37).ok Qa 37:=AH fn37 (Ab ko96 Ad)
def R37_eq(nl:Bool)(l:List Op1)(hl:l.length<=40)(hv:∀x∈l,opV x):R37 [.slice nl [] (Da l)]=some (.int .i64 0):=by
 refine AG (Qb rfl) ?_;unfold dc37;have hlen:(Da l).length=l.length:=Qk ..;have e1:((40:Int)<l.length)=False:=eq_false (by omega);simp only[gB1,↓go1,go5,reduceIte,Qj,Qq,Q2,QT,Q8,reduceCtorEq,Zc,Zd,Ze,Q0,hlen,e1];refine Bm (n:=l.length) (I:=λj st=>st.s 9= .slice nl [] (Da l)∧st.s 10= .int .i64 l.length∧st.s 11= .int .i64 (j:Int)) (λj hj ih st g hI=>?_) (λst g hI=>?_) 0 (Qg _) _ _ ⟨rfl,rfl,rfl⟩
 ·obtain⟨st_s,st_m,st_c⟩:=st;obtain⟨h9,h10,h11⟩:=hI;simp only at h9 h10 h11;refine Ae dc37l0.eq_1 ?_;have hlt:((j:Int)<l.length):=by omega
  have hj0:=nJ (j:=j);have hw:=wJ (j:=j) (by omega);have hat:=opsD_at2 hj;have h96:=R96_eq l[j] (hv _ (QC hj));unfold opD at h96;generalize l[j]=x at hat h96;simp only[gB1,↓go1,go5,reduceIte,Qj,Qq,Q2,QT,Q8,reduceCtorEq,Zc,Zd,Ze,Q0,h9,h10,h11,hlt,hj0,Qo,hat,An S37 96,h96,hw];exact ih _ _ ⟨h9,h10,rfl⟩
 ·obtain⟨h9,h10,h11⟩:=hI;refine Ae dc37l0.eq_1 ?_;simp only[gB1,↓go1,go5,reduceIte,Qj,Qq,Q2,QT,Q8,reduceCtorEq,Zc,Zd,Ze,Q0,h9,h10,h11,Q6]
  all_goals first|rfl|exact⟨rfl,rfl⟩|simp[*]
def key_len(k:Int)(p:Bs)(n:Int):(Bn k p n).length<=p.length+8:=by
 unfold Bn
 repeat' split
 all_goals (first|(simp only[Qf,gB3];omega)|exact Qg _)
def opK(x:Op1):Prop:=opV x∧(x.1≠3->B7 (BQ x.2.1).1 (BQ x.2.1).2.1 (BQ x.2.1).2.2=0)
def hasP_app(p s:Bs):BN (p++s) p=true:=by simp[BN]
def route_len1{s:Bs}(h:AP s=0):1<=s.length:=by
 cases s with
 |nil=>exact absurd h (by decide)
 |cons c s=>simp
def guess_key{k n:Int}{name:Bs}(h:B7 k name n=0):BQ (Bn k name n)=(k,name,n):=by
 unfold Bn;rw[if_neg (λe=>e h)];unfold B7 at h;by_cases h1:k=1
 ·subst h1;rw[if_pos rfl]at h;split at h
  ·rename_i c;obtain⟨rfl,hr⟩:=c;rw[if_pos rfl];unfold BQ;rw[if_neg (by simp),if_neg (by simp),if_pos (hasP_app _ _)];rfl
  ·cases h
 rw[if_neg h1]at h ⊢;by_cases h2:k=2
 ·subst h2;rw[if_pos rfl]at h;split at h
  ·rename_i c;obtain⟨n1,n2,hr⟩:=c;have hl:=route_len1 hr;rw[if_pos rfl];have hu:(IntKind.u8.wrap n).toNat=n.toNat:=by
    have:IntKind.u8.wrap n=n:=by show n % 256=n;omega
    rw[this]
   rw[hu];have hdr:([100,47]++name++[0,UInt8.ofNat n.toNat]).drop 2=name++[0,UInt8.ofNat n.toNat]:=by simp
   have hlen:(name++[0,UInt8.ofNat n.toNat]).length=name.length+2:=by simp
   unfold BQ;have e1:(name++[0,UInt8.ofNat n.toNat]).take (name.length+2-2)=name:=by simp
   have e2:(name++[0,UInt8.ofNat n.toNat]).getD (name.length+2-1) 0=UInt8.ofNat n.toNat:=by simp[QR]
   have e4:(name++[0,UInt8.ofNat n.toNat]).getD (name.length+2-2) 0=0:=by simp[QR]
   have e3:(((UInt8.ofNat n.toNat).toNat:Nat):Int)=n:=by
    rw[UInt8.toNat_ofNat'];omega
   rw[hdr,hlen,if_neg (by simp),if_neg (by simp),if_neg (by simp[BN]),if_neg (by simp[BN]),if_pos ⟨by rw[QK];exact hasP_app _ _,by omega,e4⟩,e1,e2,e3]
  ·cases h
 rw[if_neg h2]at h ⊢;by_cases h3:k=3
 ·subst h3;rw[if_pos rfl]at h;split at h
  ·rename_i c;obtain⟨rfl,hr⟩:=c;rw[if_pos rfl];unfold BQ;rw[if_neg (by simp),if_neg (by simp),if_neg (by simp[BN]),if_pos (hasP_app _ _)];rfl
  ·cases h
 rw[if_neg h3]at h ⊢;split at h
 ·rename_i h45;split at h
  ·rename_i c;obtain⟨rfl,rfl⟩:=c;rcases h45 with rfl|rfl
   ·rfl
   ·rfl
  ·cases h
 ·cases h
def key_ne{k n:Int}{name:Bs}(h:B7 k name n=0):Bn k name n≠[]:=λe=>by
 have:=guess_key h;rw[e]at this;have:k=0:=(congrArg (·.1) this).symm;subst this;cases h
def D4{kind k n:Int}{name val:Bs}(hk:kind=1∨kind=2∧val=[])(h:B7 k name n=0)(hl:name.length<=64)(hv:val.length<=900):opK (kind,Bn k name n,val):=by
 have h1:=key_len k name n;have h2:=key_ne h;refine⟨⟨by show(Bn k name n).length<=100;omega,hv,?_⟩,λ_=>by show B7 (BQ (Bn k name n)).1 _ _=0;rw[guess_key h];exact h⟩;rcases hk with rfl|⟨rfl,rfl⟩
 ·exact .inl ⟨rfl,h2⟩
 ·exact .inr (.inl ⟨rfl,h2,rfl⟩)
def opK_drop(a:UInt8){p:Bs}(hl:p.length<=64):opK (3,[a,47]++p++[47],[]):=
 ⟨⟨by simp;omega,Qg _,.inr (.inr ⟨rfl,rfl⟩)⟩,λh=>absurd rfl h⟩
def row1{p:Bs}(h:AP p=0):B7 1 p 0=0:=by unfold B7;rw[if_pos rfl,if_pos ⟨rfl,h⟩]
def row2{p:Bs}{n:Int}(h:AP p=0)(hn:1<=n∧n<=30):B7 2 p n=0:=by unfold B7;rw[if_neg (by decide),if_pos rfl,if_pos ⟨hn.1,hn.2,h⟩]
def row3{p:Bs}(h:Bz p=true):B7 3 p 0=0:=by unfold B7;rw[if_neg (by decide),if_neg (by decide),if_pos rfl,if_pos ⟨rfl,h⟩]
structure OpsV (l:List Op1):Prop where
 n:l.length<=40
 ok:∀x∈l,opK x
def addE_ok{l l':List Mt}{m:Mt}(e:(E_ l m).1=some l'):AP m.1=0∧l.length<4:=by
 unfold E_ at e;split at e
 ·cases e
 rename_i h1;split at e
 ·cases e
 split at e
 ·cases e
 split at e
 ·cases e
 rename_i h4;refine⟨?_,by omega⟩;have h1':=Decidable.not_not.1 h1;unfold CX at h1';split at h1'
 ·rename_i h;exact absurd h1' h
 ·rename_i h;exact Decidable.not_not.1 h
def rules_all{l:List Rl}:∀f j,CW l f j=0->∀i,j<=i->i<j+f->i<l.length->EM (Bp l i) (l.take i)=0
 |0,j,_,i,h1,h2,_=>by omega
 |f+1,j,h,i,h1,h2,hi=>by
  unfold CW at h;rw[if_pos (by omega)]at h;split at h
  ·rename_i hc;exact absurd h hc
  ·rename_i hc;rcases Nat.eq_or_lt_of_le h1 with rfl|h1
   ·exact Decidable.not_not.1 hc
   ·exact rules_all f (j+1) h i (by omega) (by omega) hi
def pol_path{l:List Rl}(h:Cm l=0):∀r∈l,r.1.length<=64:=λr hr=>by
 unfold Cm at h;split at h
 ·cases h
 ·obtain⟨i,hi,rfl⟩:=Q5 hr;have h2:=rules_all l.length 0 h i (Qg _) (by omega) hi;have e:Bp l i=l[i]:=by simp[Bp,Qd hi]
  rw[e]at h2;unfold EM at h2;split at h2
  ·rename_i c;exact absurd h2 c.2
  ·rename_i c;by_cases h0:l[i].1=[]
   ·rw[h0];exact Qg _
   ·have:AP l[i].1=0:=by
     rcases Classical.em (AP l[i].1=0)with q|q
     ·exact q
     ·exact absurd ⟨h0,q⟩ c
    exact B8 this
def rules_len{l:List Rl}(h:Cm l=0):(C5 (B2 l)).length<=300:=by
 have h4:=(polE_zero h).1;have hp:=pol_path h;have hs:CG (B2 l)<=71*(B2 l).length:=sumL_le λx hx=>by
  obtain⟨r,hr,rfl⟩:=Qn.1 hx;have:=hp r hr;have:=Fk r.2.toNat;simp only[ruleB,Qf,gB3];omega
 have:=FY (B2 l);rw[CH]at *;omega
def quill2_len(x y:Bs):(Cl [x,y]).length=4+x.length+y.length:=by
 have e:Cl [x,y]=rowQ x++(rowQ y++[]):=rfl;rw[e];simp only[rowQ,Qf,List.length_nil,GC];omega
def addE_mem{l l':List Mt}{m:Mt}(h:Fz l)(e:(E_ l m).1=some l'):∀x∈l',x∈l∨x=m:=by
 rw[addE_addR h]at e;unfold addR at e
 repeat' split at e
 all_goals first|cases e|skip
 intro x hx;rcases QH.1 hx with h1|h1
 ·exact .inl (QD h1)
 ·rcases Qh.1 h1 with h1|h1
  ·exact .inr h1
  ·exact .inl (QZ h1)
def addE_bd2(l:List Mt)(m:Mt):(∃l',(E_ l m).1=some l'∧(E_ l m).2=0∧l'.length=l.length+1)∨((E_ l m).1=none∧1<=(E_ l m).2∧(E_ l m).2<=99):=by
 unfold E_;have h:=routeE_bd m.1;by_cases h1:CX m.1 m.2.1≠0
 ·rw[if_pos h1];right;refine⟨rfl,?_⟩;unfold CX at h1 ⊢;simp only
  repeat' split
  all_goals (first|omega|(rename_i a b;simp_all))
 rw[if_neg h1];by_cases h2:0<=B0 l m.1
 ·rw[if_pos h2];exact .inr ⟨rfl,by decide,by decide⟩
 rw[if_neg h2];by_cases h3:EQ m.1 (l.map (·.1))=true
 ·rw[if_pos h3];exact .inr ⟨rfl,by decide,by decide⟩
 rw[if_neg h3];by_cases h4:4<=l.length
 ·rw[if_pos h4];exact .inr ⟨rfl,by decide,by decide⟩
 rw[if_neg h4];exact .inl ⟨_,rfl,rfl,by rw[Gp,Qf];rfl⟩
structure ViewI (v:Vw):Prop where
 ok:VwOk v
 inv:InvT v.ks
 srt:Fz v.ms
 nlm:v.nlm=true->v.ms=[]
 te:1<=v.te∧v.te<=6
 kl:v.ks.length<=39
 ml:v.ms.length<=4
 mr:∀m∈v.ms,m.1.length<=64
structure AskI (a:Ak):Prop where
 ok:AkOk a
 cap:DW a.rs
 nlr:a.nlr=true->a.rs=[]
structure KnOk (k:Kn):Prop where
 es:k.es.length<=20
 ls:k.ls.length<=20
 et:∀x∈k.es,x.2.1.length<=400
 lt:∀x∈k.ls,x.2.2.length<=1000∧∀s∈x.2.2,s.length<=1000000
def failO(v:Vw)(e:Int):Oc:=⟨[],false,ryT (.fail e),true,[],v⟩
def Dz(v:Vw)(q:Bs)(li:Bool):Oc:=⟨q,li,[],true,[],v⟩
def Good(v:Vw)(a:Ak)(o:Oc):Prop:=
 ∃y,ryE y=0∧ryN y∧o.rep=ryT y∧(((∃e,y= .fail e)∧o.ops=[]∧o.vw=v)∨((∀e,y≠ .fail e)∧((BX a.op=false∧o.ops=[]∧∃b,o.vw={v with se:=b})∨(BX a.op=true∧o.ops≠[]∧OpsV o.ops))))
structure DecOk (v:Vw) (a:Ak) (dec:Kn->Oc):Prop where
 run:∀k,KnOk k->R19 En EH [vwD v,akD a,.agg (kwC k)]=some (.agg (ocU (dec k)))
 rep:∀k,KnOk k->(dec k).need=[]->Good v a (dec k)
 nd:∀k,KnOk k->(dec k).need≠[]->∃q li,dec k=Dz v q li
def BB{v:Vw}{a:Ak}(o:Oc)(run:∀k,KnOk k->R19 En EH [vwD v,akD a,.agg (kwC k)]=some (.agg (ocU o)))(hn:o.need=[])(hr:Good v a o):DecOk v a (λ_=>o):=
 ⟨run,λ_ _ _=>hr,λ_ _ h=>absurd hn h⟩
def BP{v:Vw}{a:Ak}{e:Int}(he:1<=e∧e<=99):Good v a (failO v e):=⟨.fail e,if_pos he,trivial,rfl,.inl ⟨⟨e,rfl⟩,rfl,rfl⟩⟩
def F_{v:Vw}{a:Ak}{o:Oc}(y:Ry)(h:ryE y=0)(hn:ryN y)(hr:o.rep=ryT y)(hy:∀e,y≠ .fail e)(hw:BX a.op=false)(ho:o.ops=[])(b:Bool)(hv:o.vw={v with se:=b}):Good v a o:=
 ⟨y,h,hn,hr,.inr ⟨hy,.inl ⟨hw,ho,b,hv⟩⟩⟩
def Ef{v:Vw}{a:Ak}{o:Oc}(y:Ry)(h:ryE y=0)(hn:ryN y)(hr:o.rep=ryT y)(hy:∀e,y≠ .fail e)(hw:BX a.op=true)(ho:o.ops≠[])(hv:OpsV o.ops):Good v a o:=
 ⟨y,h,hn,hr,.inr ⟨hy,.inr ⟨hw,ho,hv⟩⟩⟩
def wr_of{op:Int}(h:4<=op∧op<=18∧op≠9∧op≠14∧op≠17):BX op=true:=decide_eq_true h
def wr_no{op:Int}(h:op=1∨op=2∨op=3∨op=9∨op=14∨op=17):BX op=false:=decide_eq_false (by omega)
def tab_len:∀{l:List Mt},(∀m∈l,m.1.length<=64)->(Cp l).length<=68*l.length
 |[],_=>Qe _
 |m::l,h=>by
  have ih:=tab_len (l:=l) λx hx=>h x (Qx _ hx)
  have hm:=h m (Qp ..);have:=mtB_len m;show(mtB m++Cp l).length<=_;rw[Qf,QB];omega
def name_len{s:Bs}(h:Bz s=true):s.length<=8:=by
 unfold Bz at h;simp only[Qu,decide_eq_true_eq]at h;exact h.1.2
def oc00(v:Vw):Oc0 (oc0 v):=⟨rfl,rfl⟩
def w54(v:Vw)(a:Ak)(k:Kn){e:Int}(he:1<=e∧e<=99):W54 ⟨v,a,k⟩ (oc0 v) [.int .i64 e]=some (.tup [],failO v e,none):=W54_eq ⟨v,a,k⟩ (oc0 v) e (oc00 v) he
def dec_fail{v:Vw}{a:Ak}{e:Int}(h25:F25 [vwD v,akD a]=some (.int .i64 e))(he:1<=e∧e<=99):DecOk v a (λ_=>failO v e):=
 BB _ (λk _=>R19_fail En EH v a k e (by omega) h25 _ _ (w54 v a k he)) rfl (BP he)
def dec_sys{v:Vw}{a:Ak}(hv:ViewI v)(ha:AskI a)(h25:F25 [vwD v,akD a]=some (.int .i64 0))(hc:Cf a=0)(h1:1<=a.op)(h8:a.op<=8):∃dec,DecOk v a dec:=by
 have hnil:∀o:Oc,(oc0 v).nl=true->(oc0 v).ops=[]:=λ_ _=>rfl
 rcases(by omega:a.op=1∨a.op=2∨a.op=3∨a.op=4∨a.op=5∨a.op=6∨a.op=7∨a.op=8)with h|h|h|h|h|h|h|h
 ·exact⟨_,BB _ (λk _=>Bv .o1 a k h h25 _ _ (GF ⟨v,a,k⟩ (oc0 v) (.state v.se) (λ_=>rfl) trivial trivial)) rfl (F_ (.state v.se) rfl trivial rfl (by intro e h;cases h) (wr_no (by omega)) rfl v.se rfl)⟩
 ·exact⟨_,BB _ (λk _=>Bv .o2 a k h h25 _ _ (W56_eq ⟨v,a,k⟩ _ (λ_=>rfl))) rfl (F_ .done rfl trivial rfl (by intro e h;cases h) (wr_no (by omega)) rfl _ rfl)⟩
 ·exact⟨_,BB _ (λk _=>Bv .o3 a k h h25 _ _ (W56_eq ⟨v,a,k⟩ _ (λ_=>rfl))) rfl (F_ .done rfl trivial rfl (by intro e h;cases h) (wr_no (by omega)) rfl _ rfl)⟩
 ·have ht:=hv.te;by_cases h6:6<=v.te
  ·exact⟨_,BB _ (λk _=>Bv .o4 a k h h25 _ _ (W57_fail ⟨v,a,k⟩ (oc0 v) _ _ (λ_=>rfl) h6 (w54 v a k (by decide)))) rfl (BP (by decide))⟩
  ·exact⟨_,BB _ (λk _=>Bv .o4 a k h h25 _ _ (W57_ok ⟨v,a,k⟩ (oc0 v) v.te (oc00 v) h6 rfl (by omega))) rfl (Ef .done rfl trivial rfl (by intro e h;cases h) (wr_of (by omega)) (by simp[rotO,Oc.op,oc0]) ⟨by simp[rotO,Oc.op,oc0],by
    simp only[rotO,Oc.op,oc0,Qr,Qi];exact⟨D4 (.inl rfl) rfl (Qg _) (by rw[Lib.repeatL_length];unfold lenK;simp only[Zr];split<;>omega),λ_ h=>nomatch h⟩⟩)⟩
 ·have hl:=hv.ml;have h45:=F45_eq (nl:=v.nlm) (t:=[]) (l:=v.ms) (m:=(a.pa,a.n,a.fl)) (by omega) hv.nlm (by have:=ha.ok.pa;simp only;omega);rcases addE_bd2 v.ms (a.pa,a.n,a.fl)with ⟨l',e1,e2,e3⟩|⟨e1,e2⟩
  ·rw[e1,e2]at h45;have hms:MsOk l':=⟨by omega,λm hm=>by
    rcases addE_mem hv.srt e1 m hm with h|h
    ·exact hv.ok.mp m h
    ·rw[h];exact ha.ok.pa⟩
   obtain⟨hro,h4⟩:=addE_ok e1;have hm64:∀m∈l',m.1.length<=64:=λm hm=>by
    rcases addE_mem hv.srt e1 m hm with h|h
    ·exact hv.mr m h
    ·rw[h];exact B8 hro
   exact⟨_,BB _ (λk _=>Bv .o5 a k h h25 _ _ (W58_ok ⟨v,a,k⟩ (oc0 v) false l' h45 (oc00 v) hms)) rfl (Ef .done rfl trivial rfl (by intro e h;cases h) (wr_of (by omega)) (by simp[mntO,msO,Oc.op,oc0]) ⟨by simp[mntO,msO,Oc.op,oc0],by
    simp only[mntO,msO,Oc.op,oc0,Qr,Qi];have:=tab_len hm64;exact⟨D4 (.inl rfl) rfl (Qg _) (by omega),λ_ h=>nomatch h⟩⟩)⟩
  ·rw[e1]at h45;exact⟨_,BB _ (λk _=>Bv .o5 a k h h25 _ _ (W58_fail ⟨v,a,k⟩ (oc0 v) _ _ (λ_=>rfl) v.nlm v.ms _ h45 (by omega) (w54 v a k e2))) rfl (BP e2)⟩
 ·have hl:=hv.ml;by_cases hf:B0 v.ms a.pa<0
  ·have h127:=R127_no v.nlm v.ms a.pa (by omega) hf;exact⟨_,BB _ (λk _=>Bv .o6 a k h h25 _ _ (W59_fail ⟨v,a,k⟩ (oc0 v) _ _ (λ_=>rfl) v.nlm v.ms 14 h127 (by decide) (w54 v a k (by decide)))) rfl (BP (by decide))⟩
  ·have hi:(B0 v.ms a.pa).toNat<v.ms.length:=by
    have:=findE_lt v.ms a.pa;omega
   have h127:=R127_yes v.nlm v.ms a.pa (by omega) hv.nlm hf hi;have hms:MsOk (remL v.ms a.pa):=⟨by unfold remL;rw[Qf,Qv,QM];omega,λm hm=>by
    rcases QH.1 hm with h|h
    ·exact hv.ok.mp m (QD h)
    ·exact hv.ok.mp m (QZ h)⟩
   have hp64:=B8 (check_path hc (by rw[h];decide+kernel));have hm64:∀m∈remL v.ms a.pa,m.1.length<=64:=λm hm=>by
    rcases QH.1 hm with h|h
    ·exact hv.mr m (QD h)
    ·exact hv.mr m (QZ h)
   have hml:=hms.1;have hrl:(remL v.ms a.pa).length<=4:=by unfold remL;rw[Qf,Qv,QM];omega
   exact⟨_,BB (umO (oc0 v) (decide (remL v.ms a.pa=[])) (remL v.ms a.pa) a.pa) (λk _=>Bv .o6 a k h h25 _ _ (W59_ok ⟨v,a,k⟩ (oc0 v) _ _ h127 (oc00 v) hms (by have:=ha.ok.pa;simp only;omega))) rfl (Ef .done rfl trivial rfl (by intro e h;cases h) (wr_of (by omega)) (by simp[umO,msO,Oc.op,oc0]) ⟨by simp[umO,msO,Oc.op,oc0],by
    simp only[umO,msO,Oc.op,oc0,Qr,QQ,Qi];have:=tab_len hm64;exact⟨D4 (.inl rfl) rfl (Qg _) (by omega),opK_drop 109 hp64,opK_drop 100 hp64,λ_ h=>nomatch h⟩⟩)⟩
 ·have hkl:=hv.kl;have hr:EP a.rs:=⟨by have:=ha.ok.rl;omega,λr hr=>QF (ha.ok.rs r hr).1 (by decide),ha.cap⟩;have h50:=F50_eq (nl0:=v.nlt) (nl:=a.nlr) (l:=v.ks) (n:=a.ot) (p:=a.tk) (rs:=a.rs) (by omega) (λk hk=>(hv.ok.kp k hk).2) ha.nlr hr (by have:=ha.ok.ot;omega) (by have:=ha.ok.tk;omega);have h129:=F129_eq (nl:=v.nlt) (l:=v.ks) (by omega);rcases makeT_bd v.ks (a.ot,a.tk,a.nlr,a.rs)with ⟨⟨l',e1⟩,e2,e3,e4,e5,e6⟩|⟨e1,e2⟩
  ·rw[e1]at h50;by_cases hm:(24:Int)<=((v.ks.map λk=>D.str k.1).length:Int)
   ·exact⟨_,BB _ (λk _=>Bv .o7 a k h h25 _ _ (W60_many ⟨v,a,k⟩ (oc0 v) _ _ (λ_=>rfl) false l' h50 _ _ h129 hm (w54 v a k (by decide)))) rfl (BP (by decide))⟩
   ·have h113:=F113_eq (n:=a.ot) (p:=a.tk) (nl:=a.nlr) (t:=[]) (l:=a.rs) (by have:=ha.ok.rl;omega) hr.2.1 (by have:=ha.ok.ot;omega) (by have:=ha.ok.tk;omega);simp only at e2;rw[e2]at h113;have h232:=F232_eq (nl:=a.nlr) (l:=a.rs) (by have:=ha.ok.rl;omega) ha.ok.rs;have hrt3:(if Cm a.rs=0 then C5 (B2 a.rs)else []).length<=300:=by
     split
     ·rename_i hp;exact rules_len hp
     ·decide
    have hrt:=QF hrt3 (by decide:300<=60000);have hnm:Bz a.ot=true:=tokE_name e2;obtain⟨tp,htp,hte⟩:=found_mem e5;have htl:a.tk.length<=8:=by
     have:=name_len (hv.inv.name tp htp);rw[hte]at this;exact this
    have htx:(Cl [a.tk,if Cm a.rs=0 then C5 (B2 a.rs)else []]).length<=900:=by rw[quill2_len];omega
    have h130:=R130_ok a.ot a.tk a.nlr a.rs _ _ h113 h232 (by have:=ha.ok.tk;omega) hrt;exact⟨_,BB (mkO (oc0 v) false l' a.ot (Cl [a.tk,if Cm a.rs=0 then C5 (B2 a.rs)else []])) (λk _=>Bv .o7 a k h h25 _ _ (W60_ok ⟨v,a,k⟩ (oc0 v) false l' h50 _ _ h129 (oc00 v) hm _ _ h130 (by have:=ha.ok.ot;simp only;omega))) rfl (Ef .done rfl trivial rfl (by intro e h;cases h) (wr_of (by omega)) (by simp[mkO,ksO,Oc.op,oc0]) ⟨by simp[mkO,ksO,Oc.op,oc0],by
     simp only[mkO,ksO,Oc.op,oc0,Qr,Qi];exact⟨D4 (.inl rfl) (row3 hnm) (QF (name_len hnm) (by decide)) htx,λ_ h=>nomatch h⟩⟩)⟩
  ·rw[e1]at h50;exact⟨_,BB _ (λk _=>Bv .o7 a k h h25 _ _ (W60_fail ⟨v,a,k⟩ (oc0 v) _ _ (λ_=>rfl) v.nlt v.ks _ h50 (by omega) (w54 v a k e2))) rfl (BP e2)⟩
 ·obtain⟨r,hr,_⟩:=hv.inv.tree;have hkl:=hv.kl;cases hf:AY v.ks a.ot with
  |false=>
   have h131:=G131_no (nl:=v.nlt) (by omega) hr hf;exact⟨_,BB _ (λk _=>Bv .o8 a k h h25 _ _ (W61_fail En ⟨v,a,k⟩ (oc0 v) _ _ (λ_=>rfl) v.nlt v.ks true [] 6 h131 (by decide) (w54 v a k (by decide)))) rfl (BP (by decide))⟩
  |true=>
   have h131:=G131_yes (nl:=v.nlt) (by omega) hr hf;have hgl:(Dm v.ks a.ot).length<=v.ks.length+1:=by
    unfold Dm srtB;rw[Qw];exact dfs_len hr _ _
   have hgm:∀s∈Dm v.ks a.ot,Bz s=true:=λs hs=>by
    have:=dfs_mem (srt_mem hs);obtain⟨u,hu,e⟩:=found_mem hf;rcases Qh.1 this with rfl|h
    ·rw[←e];exact hv.inv.name u hu
    ·obtain⟨t,ht,rfl⟩:=Qn.1 h;exact hv.inv.name t ht
   have hgn:Dm v.ks a.ot≠[]:=λe=>by
    have h1:(Dm v.ks a.ot).length=(ED v.ks v.ks.length a.ot).length:=Qw _;rw[e]at h1;cases hk:v.ks.length<;>rw[hk]at h1<;>simp[ED]at h1
   have hgs:∀s∈Dm v.ks a.ot,s.length<=1000000:=λs hs=>by
    have:=hgm s hs;unfold Bz at this;simp only[Qu,decide_eq_true_eq]at this;omega
   have hy:ryE (.names false (Dm v.ks a.ot))=0:=if_pos ⟨by omega,by
    rw[QY];intro x hx;rw[name_nm (hgm x hx)];decide⟩
   exact⟨_,BB (revO (oc0 v) (decide (DN v.ks (Dm v.ks a.ot)=[])) (DN v.ks (Dm v.ks a.ot)) false (Dm v.ks a.ot)) (λk _=>Bv .o8 a k h h25 _ _ (W61_ok En ⟨v,a,k⟩ (oc0 v) _ _ false (Dm v.ks a.ot) h131 (oc00 v) hgn (by omega) hgs (λe=>by cases e))) rfl (Ef (.names false (Dm v.ks a.ot)) hy (λe=>by cases e) rfl (by intro e h;cases h) (wr_of (by omega)) (by simp[revO,DE,ksO,oc0,hgn]) ⟨by simp[revO,DE,ksO,oc0];omega,λx hx=>by
    simp only[revO,DE,ksO,oc0,Qr]at hx;obtain⟨n,hn,rfl⟩:=Qn.1 hx;exact D4 (.inr ⟨rfl,rfl⟩) (row3 (hgm n hn)) (QF (name_len (hgm n hn)) (by decide)) (Qg _)⟩)⟩
def ent_len{k:Kn}(h:KnOk k)(q:Bs):(entE k q).1.length<=400:=by
 unfold entE;split
 ·decide
 ·rename_i h2;have:=(lastI_bd (FW k) q).2;unfold FW at this h2;rw[Qk]at this;simp only[QR,FW];rw[Qd (by omega)];exact h.et _ (QC (by omega))
def lst_ok{k:Kn}(h:KnOk k)(q:Bs):(lstE k q).2.1.length<=1000∧∀s∈(lstE k q).2.1,s.length<=1000000:=by
 unfold lstE;split
 ·exact⟨by decide,λs hs=>by cases hs⟩
 ·rename_i h2;have:=(lastI_bd (k.ls.map (·.1)) q).2;rw[Qk]at this;simp only[QR];rw[Qd (by omega)];exact h.lt _ (QC (by omega))
structure ScI (s:Sc):Prop where
 bad:DJ s 6=false
 nl:s.nl=true->s.rs=[]
def bad_out{s:Sc}{q:Int}(h:DJ s q=false):(1<=q∧q<=6)∧(0<=s.mx∧s.mx<=6)∧(0<=s.la∧s.la<=30)∧(s.rs.length:Int)<=6∧risB s.rs 0=true∧newE s.rs=s.la:=by
 unfold DJ at h;simp only[Zh,Bool.not_eq_false',decide_eq_true_eq,decide_eq_false_iff_not]at h;obtain⟨h1,h2,h3,h4,h5,h6⟩:=h;refine⟨h1,h2,h3,?_,h5,h6⟩;unfold Ca at h4;split at h4<;>omega
def ScI.len{s:Sc}(h:ScI s):s.rs.length<=6:=by have:=(bad_out h.bad).2.2.2.1;omega
def sc0_ok:ScI sc0:=⟨by decide,λ_=>rfl⟩
def unpack_ok{t:Bs}(h:(Cj t).2=0):ScI (Cj t).1:=by
 unfold Cj at h ⊢;split at h
 ·cases h
 ·rename_i h1;rw[if_neg h1];split at h
  ·cases h
  ·rename_i h2;rw[if_neg h2];refine⟨by
    cases hb:DJ (unpS t) 6 with
    |false=>rfl
    |true=>exact absurd (.inr (.inr hb)) h2,λhn=>?_⟩
   simp only[unpS,decide_eq_true_eq]at hn;show(FL t).1=[];unfold FL;rw[hn];rfl
def Dw(mt:Bs×Bool×Bool):Option Sc:=if mt.2.1=false∨(Cj mt.1).2≠0 then none else some (Cj mt.1).1
def secG(o:Option Sc):Sc:=o.getD sc0
def secT_ok{mt:Bs×Bool×Bool}{s:Sc}(h:Dw mt=some s):ScI s:=by
 unfold Dw at h;split at h
 ·cases h
 ·rename_i h1;simp only[Qc]at h;subst h;exact unpack_ok (Decidable.not_not.1 (λe=>h1 (.inr e)))
def Gl(mt:Bs×Bool×Bool):ScI (secG (Dw mt)):=by
 cases h:Dw mt with
 |none=>exact sc0_ok
 |some s=>exact secT_ok h
def A9(k:Kn)(p:Bs):Bs×Bool×Bool:=entE k (Bn 1 p 0)
section
variable{v:Vw}{a:Ak}{k:Kn}
def w135_need(hk:KnOk k){p:Bs}(hp:p.length<=1000000)(h:(A9 k p).2.2=false):BD ⟨v,a,k⟩ (oc0 v) [.str p]=some (.tup [.agg (scC sc0),.bool false,.bool false],Dz v (Bn 1 p 0) false,none):=
 W135_need ⟨v,a,k⟩ (oc0 v) p (oc00 v) hp (by have:=hk.es;simp only;omega) (A9 k p) rfl h
def Ga(hk:KnOk k){p:Bs}(hp:p.length<=1000000)(h:(A9 k p).2.2=true):BD ⟨v,a,k⟩ (oc0 v) [.str p]=some (.tup [.agg (scC (secG (Dw (A9 k p)))),.bool (Dw (A9 k p)).isSome,.bool true],oc0 v,none):=by
 have hl:(A9 k p).1.length<=1000000:=by have:=ent_len hk (Bn 1 p 0);unfold A9;omega
 have hkl:(Wb.mk v a k).k.es.length<=1000:=by have:=hk.es;simp only;omega
 by_cases hc:(A9 k p).2.1=false∨(Cj (A9 k p).1).2≠0
 ·have e:Dw (A9 k p)=none:=if_pos hc;rw[e];exact W135_no ⟨v,a,k⟩ (oc0 v) p (oc00 v) hp hkl (A9 k p) rfl h hl hc
 ·have e:Dw (A9 k p)=some (Cj (A9 k p).1).1:=if_neg hc;rw[e];rw[not_or]at hc;exact W135_yes ⟨v,a,k⟩ (oc0 v) p (oc00 v) hp hkl (A9 k p) rfl h hl (by simpa using hc.1) (Decidable.not_not.1 hc.2)
def writeE(v:Vw)(p:Bs)(s:Sc)(cas:Int)(data:Bs):Oc:=
 if(Cz s (BL v p).1 (BL v p).2 cas data.length).2.2.2≠0 then failO v (Cz s (BL v p).1 (BL v p).2 cas data.length).2.2.2 else wriO (oc0 v) p (Cz s (BL v p).1 (BL v p).2 cas data.length) data
def refE_bd(s:Sc)(q:Int)(b:Bool)(cas size:Int):0<=refE s q b cas size∧refE s q b cas size<=99:=by
 unfold refE
 repeat' split
 all_goals decide
def writ_bd{s:Sc}(hs:s.rs.length<=6)(q:Int)(b:Bool)(cas size:Int):(0<=(Cz s q b cas size).2.2.2∧(Cz s q b cas size).2.2.2<=99)∧(Cz s q b cas size).1.rs.length<=7∧(Cz s q b cas size).2.2.1.length<=7∧((Cz s q b cas size).2.2.2=0->0<=(Cz s q b cas size).2.1∧(Cz s q b cas size).2.1<=31):=by
 have hb:=refE_bd s q b cas size;unfold Cz;by_cases h:refE s q b cas size≠0
 ·rw[if_pos h];exact⟨hb,by simp only;omega,by simp,λe=>absurd e h⟩
 ·rw[if_neg h];refine⟨by simp only;omega,?_,?_,λ_=>?_⟩
  ·simp only[fewS,DM,QM,Qf,gB3];omega
  ·simp only[fewL,DM,Qk,Qv,Qf,gB3];omega
  ·have h0:=Decidable.not_not.1 h;unfold refE at h0;split at h0
   ·cases h0
   ·rename_i h1;have:DJ s q=false:=by
     cases hq:DJ s q with
     |false=>rfl
     |true=>exact absurd (.inl hq) h1
    have:=(bad_out this).2.2.1;simp only;omega
def w138(hv:ViewI v){p:Bs}(hp:p.length<=1000000){s:Sc}(hs:ScI s){cas:Int}{data:Bs}(hd:data.length<=1000000):∃ol,W138 ⟨v,a,k⟩ (oc0 v) [.str p,.agg (scC s),.int .i64 cas,.str data]=some (.tup [],writeE v p s cas data,ol):=by
 have hl:=hs.len;obtain⟨h1,h2,h3,h4⟩:=writ_bd hl (BL v p).1 (BL v p).2 cas data.length;have hm:(Wb.mk v a k).v.ms.length<=1000:=by have:=hv.ml;simp only;omega
 unfold writeE;by_cases h:(Cz s (BL v p).1 (BL v p).2 cas data.length).2.2.2≠0
 ·rw[if_pos h];exact⟨_,W138_fail ⟨v,a,k⟩ (oc0 v) p s cas data (oc00 v) (by omega) hs.nl hp hd hm _ rfl (by omega)⟩
 ·rw[if_neg h];exact⟨_,W138_ok ⟨v,a,k⟩ (oc0 v) p s cas data (oc00 v) (by omega) hs.nl hp hd hm _ rfl (Decidable.not_not.1 h) (by omega) (by omega)⟩
def sc_rows{s:Sc}(hs:ScI s):∀x∈s.rs,1<=x.1∧x.1<=30:=(badS_rows hs.bad (by decide)).2
def pack_len(s:Sc):(FT s).length<=4+2*s.rs.length:=by
 unfold FT;split
 ·exact Qg _
 ·have:=rowsI_len s.rs;simp only[bysB,Qk,Qf,gB3];omega
def few_mem{s:Sc}{q n:Int}(h:n∈fewL s q):∃x∈s.rs,x.1=n:=by
 obtain⟨x,hx,e⟩:=Qn.1 h;exact⟨x,QD hx,e⟩
def drop_ok{p:Bs}(hp:AP p=0){ns:List Int}(h:∀n∈ns,1<=n∧n<=30):∀x∈ns.map (λn=>((2:Int),Bn 2 p n,([]:Bs))),opK x:=λx hx=>by
 obtain⟨n,hn,rfl⟩:=Qn.1 hx;exact D4 (.inr ⟨rfl,rfl⟩) (row2 hp (h n hn)) (B8 hp) (Qg _)
def writeE_ok{p:Bs}{s:Sc}(hs:ScI s){cas:Int}{data:Bs}(hp:AP p=0)(hw:BX a.op=true):(writeE v p s cas data).need=[]∧Good v a (writeE v p s cas data):=by
 have hl:=hs.len;obtain⟨h1,h2,h3,h4⟩:=writ_bd hl (BL v p).1 (BL v p).2 cas data.length;unfold writeE;by_cases h:(Cz s (BL v p).1 (BL v p).2 cas data.length).2.2.2≠0
 ·rw[if_pos h];exact⟨rfl,BP (by omega)⟩
 ·rw[if_neg h];have hz:refE s (BL v p).1 (BL v p).2 cas data.length=0:=by
   rcases Classical.em (refE s (BL v p).1 (BL v p).2 cas data.length=0)with e|e
   ·exact e
   ·exact absurd (by unfold Cz;rw[if_pos e];exact e) h
  have hb:s.la+1<=30∧1<=s.la+1∧data.length<=96:=by
   have hq:=(bad_out hs.bad).2.2.1;unfold refE at hz
   repeat' split at hz
   all_goals first|omega|cases hz
  have hrl:=h2;have e:Cz s (BL v p).1 (BL v p).2 cas data.length=(fewS (DM s) (BL v p).1,s.la+1,fewL (DM s) (BL v p).1,0):=by unfold Cz;rw[if_neg (λc=>c hz)]
  rw[e]at h3 hrl ⊢;simp only at h3 hrl;have hpk:=pack_len (fewS (DM s) (BL v p).1);have hns:∀n∈fewL (DM s) (BL v p).1,1<=n∧n<=30:=λn hn=>by
   obtain⟨x,hx,rfl⟩:=few_mem hn;rcases QH.1 hx with hx|hx
   ·exact sc_rows hs x hx
   ·rw[Qy.1 hx];exact⟨hb.2.1,hb.1⟩
  refine⟨rfl,Ef (.number (s.la+1)) (if_pos ⟨by omega,by omega⟩) trivial rfl (by intro e h;cases h) hw (by simp[wriO,Bt,Oc.op,oc0]) ⟨?_,?_⟩⟩
  ·simp only[wriO,Bt,Oc.op,oc0,Qf,gB3,Qk];omega
  ·simp only[wriO,Bt,Oc.op,oc0,Qr,QQ,Qi];exact⟨D4 (.inl rfl) (row1 hp) (B8 hp) (by omega),D4 (.inl rfl) (row2 hp ⟨hb.2.1,hb.1⟩) (B8 hp) (by omega),drop_ok hp hns⟩
def turnE(v:Vw)(p:Bs)(s:Sc)(gone:List Int)(e:Int):Oc:=if e≠0 then failO v e else turnO' (oc0 v) p s gone
def w141{s:Sc}(hs:s.rs.length<=1000){gnl:Bool}{gone:List Int}(hg:gone.length<=900){e:Int}(he:0<=e∧e<=99)(hp:a.pa.length<=1000000):∃ol,W141 ⟨v,a,k⟩ (oc0 v) [.agg (scC s),.slice gnl [] (AT gone),.int .i64 e]=some (.tup [],turnE v a.pa s gone e,ol):=by
 unfold turnE;by_cases h:e≠0
 ·rw[if_pos h];exact⟨_,W141_fail ⟨v,a,k⟩ (oc0 v) s gnl gone e (oc00 v) (by omega)⟩
 ·rw[if_neg h];obtain rfl:=Decidable.not_not.1 h;exact⟨_,W141_ok ⟨v,a,k⟩ (oc0 v) s gnl gone (oc00 v) hg hs hp⟩
def turnE_ok{p:Bs}{s:Sc}{gone:List Int}(hg:gone.length<=30){e:Int}(he:0<=e∧e<=99)(hp:AP p=0)(hw:BX a.op=true)(hs:s.rs.length<=6)(hn:∀n∈gone,1<=n∧n<=30):(turnE v p s gone e).need=[]∧Good v a (turnE v p s gone e):=by
 unfold turnE;by_cases h:e≠0
 ·rw[if_pos h];exact⟨rfl,BP (by omega)⟩
 ·rw[if_neg h];have hpk:=pack_len s;refine⟨rfl,Ef .done rfl trivial rfl (by intro e h;cases h) hw (by simp[turnO',Bt,Oc.op,oc0]) ⟨?_,?_⟩⟩
  ·simp only[turnO',Bt,Oc.op,oc0,Qf,gB3,Qk];omega
  ·simp only[turnO',Bt,Oc.op,oc0,Qr,QQ,Qi];exact⟨D4 (.inl rfl) (row1 hp) (B8 hp) (by omega),drop_ok hp hn⟩
def turnO_mem(ns:List Int)(n:Nat):∀(l:List Rw)(j:Nat),∀q∈Ep ns n j l,∃x∈l,x.1=q
 |[],j,q,h=>by cases h
 |x::r,j,q,h=>by
  unfold Ep at h;split at h
  ·rcases Qh.1 h with rfl|h
   ·exact⟨x,Qp ..,rfl⟩
   ·obtain⟨y,hy,e⟩:=turnO_mem ns n r (j+1) q h;exact⟨y,Qx _ hy,e⟩
  ·obtain⟨y,hy,e⟩:=turnO_mem ns n r (j+1) q h;exact⟨y,Qx _ hy,e⟩
def turnS_mem{s:Sc}(hs:ScI s)(ns:List Int)(c:Nat):∀q∈(BF s ns c).2.1,1<=q∧q<=30:=λq hq=>by
 unfold BF at hq
 repeat' split at hq
 ·cases hq
 ·cases hq
 ·obtain⟨x,hx,rfl⟩:=turnO_mem _ _ _ _ q hq;exact sc_rows hs x hx
def confS_mem{s:Sc}(hs:ScI s)(q most:Int)(b:Bool):∀n∈(DO s q most b).2.1,1<=n∧n<=30:=λn hn=>by
 unfold DO at hn;split at hn
 ·cases hn
 ·obtain⟨x,hx,rfl⟩:=few_mem hn;exact sc_rows hs x hx
def turnO_len(ns:List Int)(n:Nat):∀(l:List Rw)(j:Nat),(Ep ns n j l).length<=l.length
 |[],j=>Qe _
 |x::r,j=>by
  unfold Ep;have:=turnO_len ns n r (j+1);split<;>simp only[QB]<;>omega
def turnS_bd{s:Sc}(hs:s.rs.length<=6)(ns:List Int)(c:Nat):(0<=(BF s ns c).2.2∧(BF s ns c).2.2<=99)∧(BF s ns c).1.rs.length<=6∧(BF s ns c).2.1.length<=6:=by
 unfold BF
 repeat' split
 ·exact⟨(by decide:(0:Int)<=2∧(2:Int)<=99),hs,Qg _⟩
 ·exact⟨(by decide:(0:Int)<=6∧(6:Int)<=99),hs,Qg _⟩
 ·exact⟨(by decide:(0:Int)<=0∧(0:Int)<=99),by simp only[turnR_len];exact hs,QF (turnO_len _ _ _ _) hs⟩
def confS_bd{s:Sc}(hs:s.rs.length<=6)(q most:Int)(b:Bool):(0<=(DO s q most b).2.2∧(DO s q most b).2.2<=99)∧(DO s q most b).1.rs.length<=6∧(DO s q most b).2.1.length<=6:=by
 unfold DO;split
 ·exact⟨(by decide:(0:Int)<=2∧(2:Int)<=99),hs,Qg _⟩
 ·refine⟨(by decide:(0:Int)<=0∧(0:Int)<=99),?_,?_⟩
  ·simp only[fewS,QM];omega
  ·simp only[fewL,Qk,Qv];omega
end
def read_bd(s:Sc)(n:Int):0<=(readS s n).2∧(readS s n).2<=99:=by
 unfold readS
 repeat' split
 ·exact(by decide:(0:Int)<=2∧(2:Int)<=99)
 ·exact(by decide:(0:Int)<=6∧(6:Int)<=99)
 ·exact(by decide:(0:Int)<=21∧(21:Int)<=99)
 ·exact(by decide:(0:Int)<=0∧(0:Int)<=99)
def read_row{s:Sc}(hs:ScI s){n:Int}(h:(readS s n).2=0):1<=(readS s n).1.1∧(readS s n).1.1<=30:=by
 have hb:=bad_out hs.bad;unfold readS at h ⊢;split at h
 ·cases h
 ·rename_i h1;rw[if_neg h1];split at h
  ·cases h
  ·rename_i h2;rw[if_neg h2];split at h
   ·cases h
   ·rename_i h3;rw[if_neg h3];have hlt:F5 s n<s.rs.length:=by
     unfold F5;split
     ·omega
     ·exact placeR_lt _ _
    simp only[QR];rw[Qd (by omega)];have hm:=ris_bd hb.2.2.2.2.1 _ (QC (l:=s.rs) (n:=(F5 s n).toNat) (by omega));have he:(s.rs.getLast?.map (·.1)).getD 0=newE s.rs:=by unfold newE;cases s.rs.getLast?<;>rfl
    rw[he,hb.2.2.2.2.2]at hm;simp only[QS];omega
def GB(v:Vw)(a:Ak)(k:Kn):Oc:=
 if(A9 k a.pa).2.2=false then Dz v (Bn 1 a.pa 0) false
 else if a.op=10 then writeE v a.pa (secG (Dw (A9 k a.pa))) a.cas a.da
 else if a.op=15 then turnE v a.pa (DO (secG (Dw (A9 k a.pa))) (BL v a.pa).1 a.n a.fl).1 (DO (secG (Dw (A9 k a.pa))) (BL v a.pa).1 a.n a.fl).2.1 (DO (secG (Dw (A9 k a.pa))) (BL v a.pa).1 a.n a.fl).2.2
 else match Dw (A9 k a.pa)with
  |none=>failO v 6
  |some s=>if a.op=14 then {oc0 v with rep:=ryT (.about s)}else if a.op=16 then {E7 (oc0 v) a.pa s.rs with rep:=ryT .done}
   else if a.op=11 then turnE v a.pa (BF s a.ns 250).1 [] (BF s a.ns 250).2.2 else if a.op=12 then turnE v a.pa (BF s a.ns 251).1 [] (BF s a.ns 251).2.2
   else turnE v a.pa (BF s a.ns 252).1 (BF s a.ns 252).2.1 (BF s a.ns 252).2.2
def wc64{v:Vw}{a:Ak}{k:Kn}(hv:ViewI v)(ha:AskI a)(hk:KnOk k)(hop:10<=a.op∧a.op<=16):∃ol,W64 ⟨v,a,k⟩ (oc0 v) []=some (.tup [],GB v a k,ol):=by
 have hp:a.pa.length<=1000000:=by have:=ha.ok.pa;omega
 have hd:a.da.length<=1000000:=by have:=ha.ok.da;omega
 have hn:=ha.ok.ns;unfold GB;cases hm:(A9 k a.pa).2.2 with
 |false=>
  rw[if_pos rfl];exact⟨_,W64_need ⟨v,a,k⟩ (oc0 v) _ _ _ (λ_=>rfl) (w135_need hk hp hm)⟩
 |true=>
  rw[if_neg (by decide)];have h135:=Ga (v:=v) (a:=a) hk hp hm;have hsg:=Gl (A9 k a.pa);by_cases h10:a.op=10
  ·rw[if_pos h10];obtain⟨ol,h138⟩:=w138 (a:=a) (k:=k) hv hp hsg (cas:=a.cas) (data:=a.da) hd;exact⟨_,W64_write ⟨v,a,k⟩ (oc0 v) _ _ _ _ (λ_=>rfl) h135 h10 h138⟩
  rw[if_neg h10];by_cases h15:a.op=15
  ·rw[if_pos h15];have hl:=hsg.len;obtain⟨b1,b2,b3⟩:=confS_bd hl (BL v a.pa).1 a.n a.fl;obtain⟨ol,h141⟩:=w141 (v:=v) (a:=a) (k:=k) (s:=(DO (secG (Dw (A9 k a.pa))) (BL v a.pa).1 a.n a.fl).1) (by omega) (gnl:=decide ((DO (secG (Dw (A9 k a.pa))) (BL v a.pa).1 a.n a.fl).2.1=[])) (gone:=(DO (secG (Dw (A9 k a.pa))) (BL v a.pa).1 a.n a.fl).2.1) (by omega) b1 hp;exact⟨_,W64_config ⟨v,a,k⟩ (oc0 v) _ _ _ _ (λ_=>rfl) h135 h15 (BL v a.pa).1 (BL v a.pa).2 _ _ _ _ h141 (W140_eq ⟨v,a,k⟩ (oc0 v) a.pa (λ_=>rfl) (by have:=hv.ml;simp only;omega)) (R139_eq _ _ _ _ _ (by omega) hsg.nl)⟩
  rw[if_neg h15];cases hs:Dw (A9 k a.pa)with
  |none=>
   rw[hs]at h135;exact⟨_,W64_none ⟨v,a,k⟩ (oc0 v) _ _ _ (λ_=>rfl) h135 h10 h15 (w54 v a k (by decide))⟩
  |some s=>
   rw[hs]at h135;have hsi:=secT_ok hs;have hl:=hsi.len;simp only;by_cases h14:a.op=14
   ·rw[if_pos h14];exact⟨_,W64_about ⟨v,a,k⟩ (oc0 v) s _ _ (λ_=>rfl) h135 h14 (GF ⟨v,a,k⟩ (oc0 v) (.about s) (λ_=>rfl) (show s.rs.length<=1000 by omega) trivial)⟩
   rw[if_neg h14];by_cases h16:a.op=16
   ·rw[if_pos h16];exact⟨_,W64_purge ⟨v,a,k⟩ (oc0 v) s _ _ (λ_=>rfl) h135 h16 (W142_eq ⟨v,a,k⟩ (oc0 v) s (oc00 v) (by omega) hp)⟩
   rw[if_neg h16];by_cases h11:a.op=11
   ·rw[if_pos h11];obtain⟨b1,b2,b3⟩:=turnS_bd hl a.ns 250;obtain⟨ol,h141⟩:=w141 (v:=v) (a:=a) (k:=k) (s:=(BF s a.ns 250).1) (by omega) (gnl:=true) (gone:=[]) (Qg _) b1 hp;exact⟨_,W64_delete ⟨v,a,k⟩ (oc0 v) s _ _ (λ_=>rfl) h135 h11 _ _ h141 (R143_eq s _ _ (by omega) hsi.nl hn)⟩
   rw[if_neg h11];by_cases h12:a.op=12
   ·rw[if_pos h12];obtain⟨b1,b2,b3⟩:=turnS_bd hl a.ns 251;obtain⟨ol,h141⟩:=w141 (v:=v) (a:=a) (k:=k) (s:=(BF s a.ns 251).1) (by omega) (gnl:=true) (gone:=[]) (Qg _) b1 hp;exact⟨_,W64_undelete ⟨v,a,k⟩ (oc0 v) s _ _ (λ_=>rfl) h135 h12 _ _ h141 (R144_eq s _ _ (by omega) hsi.nl hn)⟩
   rw[if_neg h12];have h13:a.op=13:=by omega
   obtain⟨b1,b2,b3⟩:=turnS_bd hl a.ns 252;obtain⟨ol,h141⟩:=w141 (v:=v) (a:=a) (k:=k) (s:=(BF s a.ns 252).1) (by omega) (gnl:=decide ((BF s a.ns 252).2.1=[])) (gone:=(BF s a.ns 252).2.1) (by omega) b1 hp;exact⟨_,W64_destroy ⟨v,a,k⟩ (oc0 v) s _ _ (λ_=>rfl) h135 h13 _ _ _ _ h141 (R145_eq s _ _ (by omega) hsi.nl hn)⟩
def GA{v:Vw}{a:Ak}{k:Kn}(hr:AP a.pa=0)(hop:10<=a.op∧a.op<=16):((A9 k a.pa).2.2=true->(GB v a k).need=[]∧Good v a (GB v a k))∧((A9 k a.pa).2.2=false->GB v a k=Dz v (Bn 1 a.pa 0) false):=by
 have hsg:=Gl (A9 k a.pa);have hl:=hsg.len;unfold GB;cases hm:(A9 k a.pa).2.2 with
 |false=>
  rw[if_pos rfl];exact⟨λe=>(by cases e),λ_=>rfl⟩
 |true=>
  rw[if_neg (by decide)];refine⟨λ_=>?_,λe=>by cases e⟩;by_cases h14:a.op=14
  ·rw[if_neg (by omega),if_neg (by omega)];cases hs:Dw (A9 k a.pa)with
   |none=>exact⟨rfl,BP (by decide)⟩
   |some s=>
    simp only;rw[if_pos h14];exact⟨rfl,F_ (.about s) (if_neg (by rw[(secT_ok hs).bad];decide)) trivial rfl (by intro e h;cases h) (wr_no (by omega)) rfl v.se rfl⟩
  have hw:BX a.op=true:=wr_of (by omega);by_cases h10:a.op=10
  ·rw[if_pos h10];exact writeE_ok hsg hr hw
  rw[if_neg h10];by_cases h15:a.op=15
  ·rw[if_pos h15];obtain⟨b1,b2,b3⟩:=confS_bd hl (BL v a.pa).1 a.n a.fl;exact turnE_ok (by omega) b1 hr hw b2 (confS_mem hsg _ _ _)
  rw[if_neg h15];cases hs:Dw (A9 k a.pa)with
  |none=>exact⟨rfl,BP (by decide)⟩
  |some s=>
   have hsi:=secT_ok hs;have hl:=hsi.len;simp only;rw[if_neg h14];by_cases h16:a.op=16
   ·rw[if_pos h16];have hn:(EY s.rs).length<=s.rs.length:=by unfold EY;rw[Qk];exact List.length_filter_le _ _
    have hal:∀n∈EY s.rs,1<=n∧n<=30:=λn hn=>by
     obtain⟨x,hx,rfl⟩:=Qn.1 hn;exact sc_rows hsi x (Zq.1 hx).1
    refine⟨rfl,Ef .done rfl trivial rfl (by intro e h;cases h) hw (by simp[E7,Bt,Oc.op,oc0]) ⟨?_,?_⟩⟩
    ·simp only[E7,Bt,Oc.op,oc0,Qf,gB3,Qk];omega
    ·simp only[E7,Bt,Oc.op,oc0,Qr,QQ,Qi];exact⟨D4 (.inr ⟨rfl,rfl⟩) (row1 hr) (B8 hr) (Qg _),drop_ok hr hal⟩
   rw[if_neg h16];have tb:=λc=>turnS_bd hl a.ns c
   have tm:=λc=>turnS_mem hsi a.ns c
   by_cases h11:a.op=11
   ·rw[if_pos h11];exact turnE_ok (Qg _) (tb 250).1 hr hw (tb 250).2.1 (λn h=>nomatch h)
   rw[if_neg h11];by_cases h12:a.op=12
   ·rw[if_pos h12];exact turnE_ok (Qg _) (tb 251).1 hr hw (tb 251).2.1 (λn h=>nomatch h)
   rw[if_neg h12];exact turnE_ok (by have:=(tb 252).2.2;omega) (tb 252).1 hr hw (tb 252).2.1 (tm 252)
def dec_change{v:Vw}{a:Ak}(hv:ViewI v)(ha:AskI a)(h25:F25 [vwD v,akD a]=some (.int .i64 0))(hr:AP a.pa=0)(hop:10<=a.op∧a.op<=16):DecOk v a (GB v a):=by
 refine⟨λk hk=>?_,λk hk hn=>?_,λk hk hn=>?_⟩
 ·obtain⟨ol,h⟩:=wc64 hv ha hk hop;rcases(by omega:a.op=10∨a.op=11∨a.op=12∨a.op=13∨a.op=14∨a.op=15∨a.op=16)with e|e|e|e|e|e|e
  ·exact Bv .o10 a k e h25 _ _ h
  ·exact Bv .o11 a k e h25 _ _ h
  ·exact Bv .o12 a k e h25 _ _ h
  ·exact Bv .o13 a k e h25 _ _ h
  ·exact Bv .o14 a k e h25 _ _ h
  ·exact Bv .o15 a k e h25 _ _ h
  ·exact Bv .o16 a k e h25 _ _ h
 ·cases hm:(A9 k a.pa).2.2 with
  |true=>exact((GA (v:=v) hr hop).1 hm).2
  |false=>
   rw[(GA (v:=v) hr hop).2 hm]at hn;exact absurd hn (key_ne (row1 hr))
 ·cases hm:(A9 k a.pa).2.2 with
  |true=>exact absurd ((GA (v:=v) hr hop).1 hm).1 hn
  |false=>exact⟨_,_,(GA (v:=v) hr hop).2 hm⟩
def listE(v:Vw)(a:Ak)(k:Kn):Oc:=
 if(lstE k ([109,47]++a.pa++[47])).2.2=false then Dz v ([109,47]++a.pa++[47]) true
 else {oc0 v with rep:=ryT (.names (decide (FV a.pa (BT (lstE k ([109,47]++a.pa++[47])).2.1)=[])) ((chB a.pa (BT (lstE k ([109,47]++a.pa++[47])).2.1)).take 64))}
def kid_nil{top:Bs}{l:List Bs}(h:FV top l=[]):chB top l=[]:=by unfold chB srtB;rw[h,List.mergeSort_nil];rfl
def paths_bd{l:List Bs}(h:∀s∈l,s.length<=1000000):∀s∈BT l,s.length<=1000000:=λs hs=>QF (B8 (paths_route hs)) (by decide)
def dec_list{v:Vw}{a:Ak}(hv:ViewI v)(ha:AskI a)(h25:F25 [vwD v,akD a]=some (.int .i64 0))(hop:a.op=17):DecOk v a (listE v a):=by
 have hp:a.pa.length<=1000000:=by have:=ha.ok.pa;omega
 refine⟨λk hk=>?_,λk hk hn=>?_,λk hk hn=>?_⟩
 ·have hkl:k.ls.length<=1000:=by have:=hk.ls;omega
  have h132:=R132_eq k ([109,47]++a.pa++[47]) hkl;unfold listE;cases hm:(lstE k ([109,47]++a.pa++[47])).2.2 with
  |false=>
   rw[if_pos rfl];rw[hm]at h132;exact Bv .o17 a k hop h25 _ _ (W62_need EH ⟨v,a,k⟩ (oc0 v) _ _ (λ_=>rfl) _ _ hp h132 (W133_eq ⟨v,a,k⟩ (oc0 v) _ _ (oc00 v)))
  |true=>
   rw[if_neg (by decide)];rw[hm]at h132;obtain⟨b1,b2⟩:=lst_ok hk ([109,47]++a.pa++[47]);generalize (lstE k ([109,47]++a.pa++[47])).2.1=found at *;have hpl:=paths_len found;have hcl:=ch_len a.pa (BT found);exact Bv .o17 a k hop h25 _ _ (W62_ok EH ⟨v,a,k⟩ (oc0 v) _ (λ_=>rfl) _ _ hp h132 b1 b2 (decide (FV a.pa (BT found)=[])) (chB a.pa (BT found)) (λb _=>G134_eq (by omega) (paths_bd b2)) (by omega) (λe=>kid_nil (of_decide_eq_true e)) (GF ⟨v,a,k⟩ (oc0 v) (.names _ _) (λ_=>rfl) (by show((chB a.pa (BT found)).take 64).length<=1000;rw[Qv];omega) (λe=>by rw[kid_nil (of_decide_eq_true e)];rfl)))
 ·unfold listE at hn ⊢;cases hm:(lstE k ([109,47]++a.pa++[47])).2.2 with
  |false=>rw[hm,if_pos rfl]at hn;simp[Dz]at hn
  |true=>
   rw[if_neg (by decide)];exact F_ (.names _ _) (if_pos ⟨by rw[Qv];omega,ch_names _ _⟩) (λe=>by rw[kid_nil (of_decide_eq_true e)];rfl) rfl (by intro e h;cases h) (wr_no (by omega)) rfl v.se rfl
 ·unfold listE at hn ⊢;cases hm:(lstE k ([109,47]++a.pa++[47])).2.2 with
  |true=>rw[hm,if_neg (by decide)]at hn;exact absurd rfl hn
  |false=>exact⟨_,_,if_pos rfl⟩
end Go.Vd
end
