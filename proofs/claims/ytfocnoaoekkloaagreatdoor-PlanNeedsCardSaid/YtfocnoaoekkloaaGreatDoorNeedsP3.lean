/-
  A part of the proof: the layers over the model. Nothing in it is assumed.
-/
import Derived.Test.YtfocnoaoekkloaaGreatDoorNeedsP2
import Derived.Test.YtfocnoaoekkloaaGreatDoorProg
import Derived.Lib.AppendZeros
import Derived.WalkKit
import Init
import Derived.Shelf.Strings.OnBuilder
import Derived.Shelf.Strings.BuilderRune
import Derived.Shelf.Strings.BuilderF

set_option linter.unusedSimpArgs false
set_option linter.unusedVariables false
set_option linter.defProp false
set_option maxHeartbeats 4000000
set_option maxRecDepth 100000
open Nat renaming reduceEqDiff→Qa,reduceAdd→Qb,zero_le→Ql,succ_ne_zero→Qm,zero_ne_one→Qn,sub_zero→Qq,le_refl→Qw,reduceLeDiff→QD,zero_add→QF,reduceLT→QL,one_ne_zero→QS,le_trans→QX,lt_or_eq_of_le→Q2,le_of_lt_succ→Q7,add_zero→Zn,lt_or_ge→Zu
open Option.some renaming injEq→Qc,inj→Q9
open Go.Proofs.Tryz renaming prog→Qd
open Option renaming bind_some→Qe,isSome_some→Qk,map_eq_some_iff→QB,bind_eq_some_iff→QM,map_some→QN,getD_some→Zm
open Int renaming toNat_natCast→Qf,eq_ofNat_of_zero_le→QH,cast_ofNat_Int→Zc,le_refl→Zr,lt_irrefl→Zt
open List renaming getElem?_eq_getElem→Qg,getElem?_cons_zero→Qh,drop_zero→Qj,head?_cons→Qo,take_succ_cons→Qp,length_append→Qr,drop_succ_cons→Qs,length_cons→Qt,take_zero→Qu,length_map→Qv,all_eq_true→Qx,getElem?_eq_some_iff→Qy,length_nil→Qz,getElem?_cons_succ→QA,mem_map→QC,map_congr_left→QE,nil_append→QG,mem_of_getElem?→QI,length_take→QJ,map_nil→QK,map_map→QO,all_nil→QP,append_nil→QT,getD→QU,length_drop→QV,take_of_length_le→QW,drop→QZ,getElem_of_mem→Q_,getElem?_take_of_lt→Q0,map_cons→Q1,findIdx?_eq_some_iff_getElem→Q4,drop_of_length_le→Q5,take_succ_eq_append_getElem→Q6,take→Q8,all_append→Za,getElem?_append_right→Zf,getElem?_append_left→Zg,getElem?_map→Zh,flatMap_cons→Zi,all_cons→Zj,getElem_mem→Zk,suffix_cons→Zl,map_append→Zo,length_set→Zp,set_append_right→Zq,length_take_le→Zs
open List.cons renaming injEq→Qi
open Prod.mk renaming injEq→QQ
open Array renaming getElem?_eq_some_iff→QR,getElem?_setIfInBounds→Zb
open Bool renaming and_eq_true→QY,false_ne_true→Q3,false_and→Zd,false_eq_true→Ze
open Prod renaming ext→Zv
open Go.Proofs.Tryz
noncomputable section
namespace Go.Vd
open Go.Proofs Go.RowKit
def longR(s:Bs)(l:List Bs):Nat->Nat->Int->Int->Int
 |0,_,b,_=>b
 |f+1,j,b,n=>if n<((l.getD j []).length:Int)∧A3 s (l.getD j [])=true then longR s l f (j+1) j (l.getD j []).length else longR s l f (j+1) b n
def Ep(s:Bs)(l:List Bs):Int:=longR s l l.length 0 (-1) (-1)
theorem loop198{S:Summs}{ns:Id}{s:Bs}{l:List Bs}{nl:Bool}{t:Id}{Q:Ex->St->Prop}{e:Int}(s206:S 206=some (Ac F206))(hb:l.length<=1000000)
  (hexit:∀st,st.s 5= .int .i64 e->Q (.exit 0) st):
  ∀(f j:Nat)(b n:Int) st g,l.length=j+f->longR s l f j b n=e->st.s 0= .str s->st.s 5= .int .i64 b->st.s 6= .int .i64 n->st.s 9= .slice nl t (l.map .str)->st.s 10= .int .i64 (l.length:Int)->st.s 11= .int .i64 (j:Int)->A6 S ns dc198l0 Q st g:=by
 intro f;induction f with
 |zero=>
  intro j b n st g hf he h0 h5 h6 h9 h10 h11;refine Af dc198l0.eq_1 ?_;have:¬((j:Int)<l.length):=by omega
  simp only[↓go1,go2,go4,reduceIte,Qb,h10,h11,this];exact hexit _ (by rw[←he];exact h5)
 |succ f ih=>
  intro j b n st g hf he h0 h5 h6 h9 h10 h11;refine Af dc198l0.eq_1 ?_;unfold longR at he;have hj:j<l.length:=by omega
  have hlt:((j:Int)<l.length):=by omega
  have hj0:(0:Int)<=(j:Int):=by omega
  have hw:IntKind.i64.wrap ((j:Int)+1)=((j+1:Nat):Int):=w64 (by omega) (by omega);have hat:(l.map D.str)[j]?=some (.str (l.getD j [])):=by simp[hj]
  generalize l.getD j []=p at hat he;have h206:F206 [.str s,.str p]=some (.bool (A3 s p)):=rfl;obtain⟨st_s,st_m,st_c⟩:=st;simp only at h0 h5 h6 h9 h10 h11;by_cases hn:n<(p.length:Int)
  ·cases hp:A3 s p with
   |true=>
    rw[if_pos ⟨hn,hp⟩]at he;simp only[↓go1,gB2,go4,reduceIte,simprocAttr,h0,h9,h10,h11,h6,hlt,hj0,hw,Qf,hat,Aa s206,h206,Qo,hn,hp];exact ih (j+1) _ _ _ _ (by omega) he h0 rfl rfl h9 h10 rfl
   |false=>
    rw[if_neg (by rw[hp];simp)]at he;simp only[↓go1,gB2,go4,reduceIte,simprocAttr,h0,h9,h10,h11,h6,hlt,hj0,hw,Qf,hat,Aa s206,h206,Qo,hn,hp];exact ih (j+1) _ _ _ _ (by omega) he h0 h5 h6 h9 h10 rfl
  ·rw[if_neg (λh=>hn h.1)]at he;simp only[↓go1,gB2,go4,reduceIte,simprocAttr,h9,h10,h11,h6,hlt,hj0,hw,Qf,hat,Qo,hn];exact ih (j+1) _ _ _ _ (by omega) he h0 h5 h6 h9 h10 rfl
def F198:List D->Option D
 |[.str s,.slice _ _ xs]=>(FI xs).bind λl=>if l.length<=1000000 then some (.int .i64 (Ep s l))else none
 |_=>none
theorem F198_eq{s:Bs}{nl:Bool}{t:Id}{l:List Bs}(hl:l.length<=1000000):F198 [.str s,.slice nl t (l.map .str)]=some (.int .i64 (Ep s l)):=by
 simp only[F198,FH,Qe];exact if_pos hl
theorem ok198:(Ac F198).ok Qd 198:=by
 obtain⟨S,hS,hl⟩:=A5 (Ab ok206 Ad);have s206:=hl 206 _ rfl;clear hl;refine Ay (S:=S) hS fn198 (λds r h=>?_) (λds r h=>?_)
 ·unfold F198 at h;split at h
  ·simp
  ·cases h
 ·unfold F198 at h;split at h
  ·rename_i s nl t xs;rw[QM]at h;obtain⟨l,hs,h⟩:=h;obtain rfl:=EH hs;split at h
   ·rename_i hl;simp only[Qc]at h;subst h;unfold dc198;simp only[↓go1,go2,reduceIte,simprocAttr,Qv];refine loop198 (s:=s) (l:=l) (nl:=nl) (t:=t) (e:=Ep s l) s206 hl (λst h1=>?_) l.length 0 _ _ _ _ (by omega) rfl rfl rfl rfl rfl rfl rfl;simp only[↓go1,gB3,reduceIte,simprocAttr,h1]
   ·cases h
  ·cases h
def B2(l:List Rl)(s:Bs):Int:=if Ep s (l.map (·.1))<0 then 0 else(Bl l (Ep s (l.map (·.1))).toNat).2
theorem longR_lt(s:Bs)(l:List Bs):∀(f j:Nat)(b n:Int),l.length=j+f->b<l.length->longR s l f j b n<l.length
 |0,j,b,n,hf,hb=>by simpa[longR]using hb
 |f+1,j,b,n,hf,hb=>by
  unfold longR;split
  ·exact longR_lt s l f (j+1) _ _ (by omega) (by omega)
  ·exact longR_lt s l f (j+1) _ _ (by omega) hb
theorem longE_lt(s:Bs)(l:List Bs):Ep s l<l.length:=longR_lt s l _ _ _ _ (by omega) (by omega)
open Classical in
def F95:List D->Option D
 |[.slice _ _ xs,.str s]=>if xs=Al (A7 xs)∧xs.length<=1000000 then some (.int .u8 (B2 (A7 xs) s))else none
 |_=>none
open Classical in
theorem F95_eq{nl:Bool}{t:Id}{l:List Rl}{s:Bs}(hl:l.length<=1000000):F95 [.slice nl t (Al l),.str s]=some (.int .u8 (B2 l s)):=by
 have h:Al l=Al (A7 (Al l))∧(Al l).length<=1000000:=by rw[AN,Au];exact⟨rfl,hl⟩
 show(if _ then _ else _)=_;rw[if_pos h,AN]
open Classical in
theorem F95_inv{ds:List D}{r:D}(h:F95 ds=some r):∃nl t l s,ds=[.slice nl t (Al l),.str s]∧l.length<=1000000∧r= .int .u8 (B2 l s):=by
 unfold F95 at h;split at h
 ·rename_i nl t xs s;split at h
  ·rename_i hc;obtain⟨h1,h2⟩:=hc;simp only[Qc]at h;subst h;refine⟨nl,t,A7 xs,s,by rw[←h1],?_,rfl⟩;rw[h1,Au]at h2;exact h2
  ·cases h
 ·cases h
theorem ok95:(Ac F95).ok Qd 95:=by
 obtain⟨S,hS,hl⟩:=A5 (Ab ok199 (Ab ok198 Ad));have s199:=hl 199 _ rfl;have s198:=hl 198 _ rfl;clear hl;refine Ay (S:=S) hS fn95 (λds r h=>?_) (λds r h=>?_)
 ·obtain⟨nl,t,l,s,rfl,_⟩:=F95_inv h;simp
 ·obtain⟨nl,t,l,s,rfl,hl,rfl⟩:=F95_inv h;have e199:∀m fr,(rowS F199).ex [.slice nl t (Al l)] m fr=some (.slice false [] ((l.map (·.1)).map .str),[]):=by
   intro m fr;simp only[rowS,F199_eq hl,QN]
  have e198:F198 [.str s,.slice false [] ((l.map (·.1)).map .str)]=some (.int .i64 (Ep s (l.map (·.1)))):=F198_eq (by simpa using hl);have hall:((l.map (·.1)).map D.str).all D.calm=true:=by rw[Qx];intro x hx;obtain⟨y,_,rfl⟩:=QC.1 hx;rfl
  have hun:((l.map (·.1)).map D.str).map D.un=(l.map (·.1)).map D.str:=by rw[QO];exact QE λ_ _=>rfl
  unfold dc95 B2;have hlt:=longE_lt s (l.map (·.1));rw[Qv]at hlt;generalize Ep s (l.map (·.1))=i at e198 hlt;by_cases hi:i<0
  ·simp only[↓go1,gB3,reduceIte,simprocAttr,Ah s199,e199,Aa s198,e198,hi]
  ·obtain⟨j,rfl⟩:=QH (show 0<=i by omega);have hj:j<l.length:=by omega
   have hj0:(0:Int)<=(j:Int):=by omega
   have hat:(Al l)[j]?=some (.agg [.str (Bl l j).1,.int .u8 (Bl l j).2]):=Dc hj;simp only[↓go1,gB2,go4,reduceIte,simprocAttr,Ah s199,e199,Aa s198,e198,hi,hj0,Qf,hat,and_self,Qj,Qs,Qo]
theorem loop220{S:Summs}{ns:Id}{s:Bs}{l:List Rl}{nl:Bool}{t:Id}{Q:Ex->St->Prop}{e:Int}(s111:S 111=some (Ac F111))(hb:l.length<=1000000)(hp0:By l)(hs:s.length<=1000000)
  (hexit:∀st,st.s 0= .slice nl t (Al l)->st.s 5= .int .i64 e->Q (.exit 0) st):
  ∀(f j:Nat)(b n:Int) st g,l.length=j+f->b<l.length->(b<0∧n=-1∨0<=b∧n=((Bl l b.toNat).1.length:Int))->longR s (l.map (·.1)) f j b n=e->st.s 0= .slice nl t (Al l)->st.s 1= .str s->st.s 5= .int .i64 b->st.s 6= .int .i64 (j:Int)->A6 S ns dc220l0 Q st g:=by
 intro f;induction f with
 |zero=>
  intro j b n st g hf hbl hbn he h0 h1 h5 h6;refine Af dc220l0.eq_1 ?_;have:¬((j:Int)<l.length):=by omega
  simp only[↓go1,go2,go4,reduceIte,simprocAttr,h0,h6,this,Au];exact hexit _ h0 (by rw[←he];exact h5)
 |succ f ih=>
  intro j b n st g hf hbl hbn he h0 h1 h5 h6;refine Af dc220l0.eq_1 ?_;unfold longR at he;have hj:j<l.length:=by omega
  have hlt:((j:Int)<l.length):=by omega
  have hj0:(0:Int)<=(j:Int):=by omega
  have hw:IntKind.i64.wrap ((j:Int)+1)=((j+1:Nat):Int):=w64 (by omega) (by omega);have hat:(Al l)[j]?=some (.agg [.str (Bl l j).1,.int .u8 (Bl l j).2]):=Dc hj;have hg:(l.map (·.1)).getD j []=(Bl l j).1:=by simp[Bl,Qg hj]
  have hself:(j:Int)<0∧(((Bl l j).1.length:Nat):Int)=-1∨0<=(j:Int)∧(((Bl l j).1.length:Nat):Int)=((Bl l (j:Int).toNat).1.length:Int):= .inr ⟨by omega,rfl⟩;rw[hg]at he;have hpl:=prefB_at hp0 hj;generalize (Bl l j).1=p at hat he hself hpl;have h111:F111 [.str s,.str p]=some (.bool (A3 s p)):=if_pos ⟨hs,hpl⟩;obtain⟨st_s,st_m,st_c⟩:=st;simp only at h0 h1 h5 h6;rcases hbn with ⟨hb0,rfl⟩|⟨hb0,hn⟩
  ·cases hp:A3 s p with
   |true=>
    rw[if_pos ⟨by omega,hp⟩]at he;simp only[↓go1,gB2,go4,reduceIte,simprocAttr,h0,h1,h5,h6,hlt,hj0,Qf,hat,Au,Aa s111,h111,Ql,Qj,Qo,hp,hb0];refine An.intro (Aj rfl) ?_;simp only[↓go1,go2,go3,reduceIte,simprocAttr,h6,hw];exact ih (j+1) _ _ _ _ (by omega) (by omega) hself he h0 h1 rfl rfl
   |false=>
    rw[if_neg (by rw[hp];simp)]at he;simp only[↓go1,gB2,go4,reduceIte,simprocAttr,h0,h1,h6,hlt,hj0,Qf,hat,Au,Aa s111,h111,Ql,Qj,Qo,hp];refine An.intro (Aj rfl) ?_;simp only[↓go1,go2,go3,reduceIte,simprocAttr,h6,hw];exact ih (j+1) _ _ _ _ (by omega) hbl (.inl ⟨hb0,rfl⟩) he h0 h1 h5 rfl
  ·obtain⟨i,rfl⟩:=QH hb0;rw[Qf]at hn;have hi:i<l.length:=by omega
   have hnb:¬((i:Int)<0):=by omega
   have hati:(Al l)[i]?=some (.agg [.str (Bl l i).1,.int .u8 (Bl l i).2]):=Dc hi;subst hn;have hkeep:(i:Int)<0∧(((Bl l i).1.length:Nat):Int)=-1∨0<=(i:Int)∧(((Bl l i).1.length:Nat):Int)=((Bl l (i:Int).toNat).1.length:Int):= .inr ⟨by omega,rfl⟩;generalize (Bl l i).1=pi at hati he hkeep;cases hp:A3 s p with
   |true=>
    by_cases hn:((pi.length:Int)<(p.length:Int))
    ·rw[if_pos ⟨hn,hp⟩]at he;simp only[↓go1,gB2,go4,reduceIte,simprocAttr,h0,h1,h5,h6,hlt,hj0,Qf,hat,Au,Aa s111,h111,Ql,Qj,Qo,hp,hnb,hati,hn,Ql,Int.natCast_nonneg];refine An.intro (Aj rfl) ?_;simp only[↓go1,go2,go3,reduceIte,simprocAttr,h6,hw];exact ih (j+1) _ _ _ _ (by omega) (by omega) hself he h0 h1 rfl rfl
    ·rw[if_neg (λh=>hn h.1)]at he;simp only[↓go1,gB2,go4,reduceIte,simprocAttr,h0,h1,h5,h6,hlt,hj0,Qf,hat,Au,Aa s111,h111,Ql,Qj,Qo,hp,hnb,hati,hn,Int.natCast_nonneg];refine An.intro (Aj rfl) ?_;simp only[↓go1,go2,go3,reduceIte,simprocAttr,h6,hw];exact ih (j+1) _ _ _ _ (by omega) (by omega) hkeep he h0 h1 h5 rfl
   |false=>
    rw[if_neg (by rw[hp];simp)]at he;simp only[↓go1,gB2,go4,reduceIte,simprocAttr,h0,h1,h6,hlt,hj0,Qf,hat,Au,Aa s111,h111,Ql,Qj,Qo,hp];refine An.intro (Aj rfl) ?_;simp only[↓go1,go2,go3,reduceIte,simprocAttr,h6,hw];exact ih (j+1) _ _ _ _ (by omega) (by omega) hkeep he h0 h1 h5 rfl
open Classical in
def F220:List D->Option D
 |[.slice _ _ xs,.str s]=>if xs=Al (A7 xs)∧xs.length<=1000000∧By (A7 xs)∧s.length<=1000000 then some (.int .u8 (B2 (A7 xs) s))else none
 |_=>none
open Classical in
theorem F220_eq{nl:Bool}{t:Id}{l:List Rl}{s:Bs}(hl:l.length<=1000000)(hp:By l)(hs:s.length<=1000000):F220 [.slice nl t (Al l),.str s]=some (.int .u8 (B2 l s)):=by
 have h:Al l=Al (A7 (Al l))∧(Al l).length<=1000000∧By (A7 (Al l))∧s.length<=1000000:=by rw[AN,Au];exact⟨rfl,hl,hp,hs⟩
 show(if _ then _ else _)=_;rw[if_pos h,AN]
open Classical in
theorem F220_inv{ds:List D}{r:D}(h:F220 ds=some r):∃nl t l s,ds=[.slice nl t (Al l),.str s]∧l.length<=1000000∧By l∧s.length<=1000000∧r= .int .u8 (B2 l s):=by
 unfold F220 at h;split at h
 ·rename_i nl t xs s;split at h
  ·rename_i hc;obtain⟨h1,h2,h3⟩:=hc;simp only[Qc]at h;subst h;refine⟨nl,t,A7 xs,s,by rw[←h1],?_,h3.1,h3.2,rfl⟩;rw[h1,Au]at h2;exact h2
  ·cases h
 ·cases h
theorem ok220:(Ac F220).ok Qd 220:=by
 obtain⟨S,hS,hl⟩:=A5 (Ab ok111 Ad);have s111:=hl 111 _ rfl;clear hl;refine Ay (S:=S) hS fn220 (λds r h=>?_) (λds r h=>?_)
 ·obtain⟨nl,t,l,s,rfl,_⟩:=F220_inv h;simp
 ·obtain⟨nl,t,l,s,rfl,hl,hp,hs,rfl⟩:=F220_inv h;unfold dc220 B2;have hlt:=longE_lt s (l.map (·.1));rw[Qv]at hlt;simp only[↓go1,go2,Qb];refine loop220 (s:=s) (l:=l) (nl:=nl) (t:=t) (e:=Ep s (l.map (·.1))) s111 hl hp hs (λst h0 h1=>?_) l.length 0 (-1) (-1) _ _ (by omega) (by omega) (.inl ⟨by omega,rfl⟩) (by rw[Ep,Qv]) rfl rfl rfl rfl;generalize Ep s (l.map (·.1))=i at h1 hlt;by_cases hi:i<0
  ·simp only[↓go1,gB3,reduceIte,simprocAttr,h1,hi]
  ·obtain⟨j,rfl⟩:=QH (show 0<=i by omega);have hj:j<l.length:=by omega
   have hj0:(0:Int)<=(j:Int):=by omega
   have hat:(Al l)[j]?=some (.agg [.str (Bl l j).1,.int .u8 (Bl l j).2]):=Dc hj;simp only[↓go1,gB2,go4,reduceIte,simprocAttr,h0,h1,hi,hj0,Qf,hat,and_self,Qj,Qs,Qo]
def allowsP(l:List Rl)(s:Bs)(want:Int):Bool:=hasB (B2 l s).toNat want.toNat
def DB(l:List Rl):Prop:=∀r∈l,0<=r.2∧r.2<256
open Classical in
def F215:List D->Option D
 |[.slice _ _ xs,.str s,.int .u8 k]=>if xs=Al (A7 xs)∧xs.length<=1000000∧DB (A7 xs)∧By (A7 xs)∧s.length<=1000000∧0<=k∧k<256 then some (.bool (allowsP (A7 xs) s k))else none
 |_=>none
open Classical in
theorem F215_eq{nl:Bool}{t:Id}{l:List Rl}{s:Bs}{k:Int}(hl:l.length<=1000000)(hc:DB l)(hp:By l)(hs:s.length<=1000000)(h0:0<=k)(h1:k<256):F215 [.slice nl t (Al l),.str s,.int .u8 k]=some (.bool (allowsP l s k)):=by
 have h:Al l=Al (A7 (Al l))∧(Al l).length<=1000000∧DB (A7 (Al l))∧By (A7 (Al l))∧s.length<=1000000∧0<=k∧k<256:=by rw[AN,Au];exact⟨rfl,hl,hc,hp,hs,h0,h1⟩
 show(if _ then _ else _)=_;rw[if_pos h,AN]
open Classical in
theorem F215_inv{ds:List D}{r:D}(h:F215 ds=some r):∃nl t l s k,ds=[.slice nl t (Al l),.str s,.int .u8 k]∧l.length<=1000000∧DB l∧By l∧s.length<=1000000∧0<=k∧k<256∧r= .bool (allowsP l s k):=by
 unfold F215 at h;split at h
 ·rename_i nl t xs s k;split at h
  ·rename_i hc;obtain⟨h1,h2,h3,hp,hs,h4,h5⟩:=hc;simp only[Qc]at h;subst h;refine⟨nl,t,A7 xs,s,k,by rw[←h1],?_,h3,hp,hs,h4,h5,rfl⟩;rw[h1,Au]at h2;exact h2
  ·cases h
 ·cases h
theorem capsP_b{l:List Rl}{s:Bs}(hc:DB l):0<=B2 l s∧B2 l s<256:=by
 unfold B2;have hlt:=longE_lt s (l.map (·.1));rw[Qv]at hlt;split
 ·omega
 ·rename_i h;have hj:(Ep s (l.map (·.1))).toNat<l.length:=by omega
  have:Bl l (Ep s (l.map (·.1))).toNat=l[(Ep s (l.map (·.1))).toNat]:=by simp[Bl,Qg hj]
  rw[this];exact hc _ (Zk hj)
theorem F219_eq{a c:Int}(h1:0<=a)(h2:a<256)(h3:0<=c)(h4:c<256):F219 [.int .u8 a,.int .u8 c]=some (.bool (hasB a.toNat c.toNat)):=if_pos ⟨h1,h2,h3,h4⟩
theorem ok215:(Ac F215).ok Qd 215:=by
 obtain⟨S,hS,hl⟩:=A5 (Ab ok95 Ad);have s95:=hl 95 _ rfl;clear hl;refine Ay (S:=S) hS fn215 (λds r h=>?_) (λds r h=>?_)
 ·obtain⟨nl,t,l,s,k,rfl,_⟩:=F215_inv h;simp
 ·obtain⟨nl,t,l,s,k,rfl,hl,hc,hp,hs,h0,h1,rfl⟩:=F215_inv h;have e1:=F95_eq (nl:=nl) (t:=[]) (s:=s) hl;have hb:=capsP_b (s:=s) hc;have hall:(Al l).all D.calm=true:=by rw[Qx];intro x hx;obtain⟨y,_,rfl⟩:=QC.1 hx;rfl
  have hun:(Al l).map D.un=Al l:=by rw[Al,QO];exact QE λ_ _=>rfl
  unfold dc215 allowsP;generalize B2 l s=a at e1 hb;obtain⟨a,rfl⟩:=QH hb.1;obtain⟨k,rfl⟩:=QH h0;have hbit:=andNot_nat (a:=a) (c:=k) (by omega) (by omega);have hz:decide (((Nat.land k (255-a):Nat):Int)=0)=hasB a k:=by
   unfold hasB;generalize Nat.land k (255-a)=x;cases x with
   |zero=>rfl
   |succ x=>simp[Nat.beq];omega
  simp only[↓go1,gB3,reduceIte,simprocAttr,Aa s95,e1,v_andNot,hbit,hz,Qf]
theorem FS{m:Mem}{e:Nat}{nl:Bool}{t:Id}{xs:List D}:Grow m e (.slice nl t xs)=(nl=true∨(m t 0=some (.tok (e+1))∧t≠[])):=rfl
theorem ER{e:Nat}{fr t:Id}{xs:List D}:Be e fr (.slice false t xs)=[(t,0,[.tok 0]),(fr,0,[.tok (e+1)])]:=rfl
theorem rlsD_append(a b:List Rl):Al a++Al b=Al (a++b):=(Zo ..).symm
theorem CV(l:List Rl):(Al l).all D.calm=true:=by rw[Qx];intro x hx;obtain⟨y,_,rfl⟩:=QC.1 hx;rfl
theorem EK(l:List Rl):(Al l).map D.un=Al l:=by rw[Al,QO];exact QE λ_ _=>rfl
def oneC(a b:List Rl)(r:Rl):Bool:=hasB (B2 b r.1).toNat (B2 a r.1).toNat
def Di(a b l:List Rl):Nat->Nat->Bool
 |0,_=>true
 |f+1,j=>if oneC a b (Bl l j)=true then Di a b l f (j+1)else false
theorem EW(a b l:List Rl):∀(f j:Nat),l.length=j+f->Di a b l f j=(l.drop j).all (oneC a b)
 |0,j,h=>by rw[Q5 (by omega)];rfl
 |f+1,j,h=>by
  have hj:j<l.length:=by omega
  have e:Bl l j=l[j]:=by simp[Bl,Qg hj]
  unfold Di;rw[EW a b l f (j+1) (by omega),List.drop_eq_getElem_cons hj,Zj,e];cases oneC a b l[j]<;>simp
def Dj(a b:List Rl):Bool:=decide (Cq a=0)&&decide (Cq b=0)&&(a++b).all (oneC a b)
theorem loop118{S:Summs}{ns:Id}{a b l:List Rl}{nl na nb:Bool}{t ta tb:Id}{Q:Ex->St->Prop}{e:Bool}(s220:S 220=some (Ac F220))(s219:S 219=some (Ac F219))
  (la:a.length<=1000000) (lb:b.length<=1000000) (pa:By a) (pb:By b) (ca:DB a) (cb:DB b) (hb:l.length<=1000000) (hpl:By l)
  (hret:∀st,e=false->st.s 4= .bool false->Q .ret st) (hexit:∀st,e=true->Q (.exit 0) st):
  ∀(f j:Nat) st g,l.length=j+f->Di a b l f j=e->st.s 0= .slice na ta (Al a)->st.s 1= .slice nb tb (Al b)->st.s 5= .slice nl t (Al l)->st.s 6= .int .i64 (j:Int)->A6 S ns dc118l0 Q st g:=by
 intro f;induction f with
 |zero=>
  intro j st g hf he h0 h1 h5 h6;refine Af dc118l0.eq_1 ?_;have:¬((j:Int)<l.length):=by omega
  simp only[↓go1,go2,go4,reduceIte,simprocAttr,h5,h6,this,Au];exact hexit _ he.symm
 |succ f ih=>
  intro j st g hf he h0 h1 h5 h6;refine Af dc118l0.eq_1 ?_;unfold Di at he;have hj:j<l.length:=by omega
  have hlt:((j:Int)<l.length):=by omega
  have hj0:(0:Int)<=(j:Int):=by omega
  have hw:IntKind.i64.wrap ((j:Int)+1)=((j+1:Nat):Int):=w64 (by omega) (by omega);have hat:(Al l)[j]?=some (.agg [.str (Bl l j).1,.int .u8 (Bl l j).2]):=Dc hj;have hq:=prefB_at hpl hj;unfold oneC at he;generalize (Bl l j).1=q at hat hq he;have ea:=F220_eq (nl:=na) (t:=[]) (s:=q) la pa hq;have eb:=F220_eq (nl:=nb) (t:=[]) (s:=q) lb pb hq;have ba:=capsP_b (s:=q) ca;have bb:=capsP_b (s:=q) cb;have e219:=F219_eq bb.1 bb.2 ba.1 ba.2;have halla:=CV a;have hallb:=CV b;have huna:=EK a;have hunb:=EK b;generalize hasB (B2 b q).toNat (B2 a q).toNat=hh at he e219;obtain⟨st_s,st_m,st_c⟩:=st;simp only at h0 h1 h5 h6;cases hh with
  |true=>
   rw[if_pos rfl]at he;simp only[↓go1,gB2,go4,reduceIte,simprocAttr,h0,h1,h5,h6,hlt,hj0,hw,Qf,hat,Au,Aa s220,ea,eb,Aa s219,e219,Ql,Qj,Qo];exact ih (j+1) _ _ (by omega) he h0 h1 h5 rfl
  |false=>
   rw[if_neg (by simp)]at he;simp only[↓go1,gB2,go4,reduceIte,simprocAttr,h0,h1,h5,h6,hlt,hj0,Qf,hat,Au,Aa s220,ea,eb,Aa s219,e219,Ql,Qj,Qo];exact hret _ he.symm rfl
open Classical in
def F118:List D->Option D
 |[.slice _ _ xs,.slice _ _ ys]=>if(xs=Al (A7 xs)∧xs.length<=1000000∧By (A7 xs)∧DB (A7 xs))∧ys=Al (A7 ys)∧ys.length<=1000000∧By (A7 ys)∧DB (A7 ys)then some (.bool (Dj (A7 xs) (A7 ys)))else none
 |_=>none
open Classical in
theorem F118_eq{na nb:Bool}{ta tb:Id}{a b:List Rl}(la:a.length<=1000000)(lb:b.length<=1000000)(pa:By a)(pb:By b)(ca:DB a)(cb:DB b):F118 [.slice na ta (Al a),.slice nb tb (Al b)]=some (.bool (Dj a b)):=by
 have h:(Al a=Al (A7 (Al a))∧(Al a).length<=1000000∧By (A7 (Al a))∧DB (A7 (Al a)))∧Al b=Al (A7 (Al b))∧(Al b).length<=1000000∧By (A7 (Al b))∧DB (A7 (Al b)):=by
  rw[AN,AN,Au,Au];exact⟨⟨rfl,la,pa,ca⟩,rfl,lb,pb,cb⟩
 show(if _ then _ else _)=_;rw[if_pos h,AN,AN]
open Classical in
theorem F118_inv{ds:List D}{r:D}(h:F118 ds=some r):∃na ta a nb tb b,ds=[.slice na ta (Al a),.slice nb tb (Al b)]∧a.length<=1000000∧b.length<=1000000∧By a∧By b∧DB a∧DB b∧r= .bool (Dj a b):=by
 unfold F118 at h;split at h
 ·rename_i na ta xs nb tb ys;split at h
  ·rename_i hc;obtain⟨⟨h1,h2,h3,h4⟩,h5,h6,h7,h8⟩:=hc;simp only[Qc]at h;subst h;refine⟨na,ta,A7 xs,nb,tb,A7 ys,by rw[←h1,←h5],?_,?_,h3,h7,h4,h8,rfl⟩
   ·rw[h1,Au]at h2;exact h2
   ·rw[h5,Au]at h6;exact h6
  ·cases h
 ·cases h
theorem ok118:(Ac F118).ok Qd 118:=by
 obtain⟨S,hS,hl⟩:=A5 (Ab ok218 (Ab ok220 (Ab ok219 Ad)));have s218:=hl 218 _ rfl;have s220:=hl 220 _ rfl;have s219:=hl 219 _ rfl;clear hl;refine Ay (S:=S) hS fn118 (λds r h=>?_) (λds r h=>?_)
 ·obtain⟨na,ta,a,nb,tb,b,rfl,_⟩:=F118_inv h;simp
 ·obtain⟨na,ta,a,nb,tb,b,rfl,la,lb,pa,pb,ca,cb,rfl⟩:=F118_inv h;have ea:=Fpol_eq (nl:=na) (t:=[]) la pa;have eb:=Fpol_eq (nl:=nb) (t:=[]) lb pb;have halla:=CV a;have hallb:=CV b;have huna:=EK a;have hunb:=EK b;have h4a:Cq a=0->a.length<=4:=by unfold Cq;split<;>omega
  have h4b:Cq b=0->b.length<=4:=by unfold Cq;split<;>omega
  unfold dc118 Dj;generalize Cq a=xa at *;generalize Cq b=xb at *;by_cases hxa:xa=0
  ·by_cases hxb:xb=0
   ·have l4a:=h4a hxa;have l4b:=h4b hxb;subst hxa hxb;have n1:(Al a).length*25<=140737488355328:=by rw[Au];omega
    have n2:((Al a).length+(Al b).length)*25<=140737488355328:=by rw[Au,Au];omega
    simp only[↓go1,gB2,go4,reduceIte,simprocAttr,Aa s218,ea,eb,FS,ER,n1,n2,rlsD_head,false_or,false_and,QG,ne_eq,QK,QP,rlsD_append,if_false,Ag,Ql,Qq,Qh,and_self];refine loop118 (a:=a) (b:=b) (l:=a++b) (e:=(a++b).all (oneC a b)) s220 s219 la lb pa pb ca cb (by simp;omega) ?_ (λst h1 h2=>?_) (λst h1=>?_) (a++b).length 0 _ _ (by omega) ?_ rfl rfl rfl rfl
    ·intro r hr;rcases List.mem_append.1 hr with h|h
     ·exact pa r h
     ·exact pb r h
    ·simp only[↓go1,gB3,h1,h2]
    ·simp only[↓go1,gB3,reduceIte,Qb,h1]
    ·rw[EW _ _ _ _ _ (by omega)];rfl
   ·simp only[↓go1,gB3,reduceIte,simprocAttr,Aa s218,ea,eb,hxb,hxa];simp
  ·simp only[↓go1,gB3,reduceIte,simprocAttr,Aa s218,ea,hxa];simp
end Go.Vd
namespace Go.Vd
open Go.Proofs
def dc246:DC:=(sr [cb 6 false] (sr [mm 7 0,mm 8 1,bt 9 .geq 7 8,mm 10 9,og 11 (.mv (.t 0)) 3 true,og 12 (.mv (.t 2)) 3 true,og 13 (.bin .leq (.t 11) (.t 12)) 3 true,oo 14 (.pick (.t 10) (.t 13) (.c (.bool false))),mm 6 14] .ret))
theorem fn246:Fn Qd 246 15 dc246 [.t 6]:=Am func246
def dc294:DC:=(sr [oo 2 (.box (.t 0)),oo 3 (.box (.t 1)),ci 4 0] (.seq (sr [ff 5 0 2,ll 6 5,bi 7 .eql 6 0] (cd 7 (sr [ff 8 0 3,ll 9 8,mm 4 9] .ret) .skip)) (sr [ff 10 0 2,ll 11 10,mm 4 11] .ret)))
theorem fn294:Fn Qd 294 12 dc294 [.t 4]:=Am func294
def dc295l0:DC:=(sr [bt 11 .lss 10 9] (.seq (cd 11 .skip (.exit 0)) (.seq (.block 1 (sr [ii 12 3 8 10,lk 13 3 12,oo 7 (.alloc [(.int .i64 0),(.bool false),(.bool false)]),oz (.store 3 (.t 7) (.t 13))] (.seq (sr [mm 14 1,lk 15 3 7,oo 16 (.call (.t 14) [(.t 15)]),mm 17 5,bt 18 .leq 16 17] (cd 18 (sr [cb 4 false] .ret) .skip)) (.row [mm 19 1,lk 20 3 7,oo 21 (.call (.t 19) [(.t 20)]),mm 5 21])))) (.row [bi 22 .add 10 1,mm 10 22]))))
def dc295:DC:=(sr [cb 4 false] (sr [ci 5 0] (.seq (sr [mm 8 0,nn 9 false 8,ci 10 0] (.block 0 (.loop dc295l0))) (sr [cb 4 true] .ret))))
theorem fn295:Fn Qd 295 23 dc295 [.t 4]:=Am func295
def dc191:DC:=(sr [oo 2 (.box (.t 0)),oo 3 (.box (.t 1)),ci 4 0] (.seq (sr [ff 7 0 3,ll 8 7,cc 9 246 [(.t 8),(.c (.int .i64 1)),(.c (.int .i64 6))],oo 10 (.un .not (.t 9)),mm 11 10,og 12 (.faddr 0 (.t 2)) 4 false,og 13 (.load none (.t 12)) 4 false,og 14 (.call (.c (.fn 246 [])) [(.t 13),(.c (.int .i64 0)),(.c (.int .i64 6))]) 4 false,og 15 (.un .not (.t 14)) 4 false,oo 16 (.pick (.t 11) (.c (.bool true)) (.t 15)),mm 17 16,og 18 (.faddr 2 (.t 2)) 10 false,og 19 (.load none (.t 18)) 10 false,og 20 (.call (.c (.fn 246 [])) [(.t 19),(.c (.int .i64 0)),(.c (.int .i64 30))]) 10 false,og 21 (.un .not (.t 20)) 10 false,oo 22 (.pick (.t 17) (.c (.bool true)) (.t 21))] (cd 22 (sr [ci 4 2] .ret) .skip)) (.seq (.seq (.drawn [ff 23 3 2,ll 24 23,nn 25 false 24,lk 26 4 2,lk 27 2 3,cc 28 294 [(.t 26),(.t 27)],bt 29 .gtr 25 28,mm 30 29,og 31 (.faddr 3 (.t 2)) 7 false,og 32 (.load none (.t 31)) 7 false,og 33 (.call (.c (.fn 295 [])) [(.t 32),(.c (.fn 296 []))]) 7 false,og 34 (.un .not (.t 33)) 7 false,oo 35 (.pick (.t 30) (.c (.bool true)) (.t 34))] [(5,1)]) (cd 35 (sr [ci 4 2] .ret) .skip)) (sr [ci 5 0] (.seq (sr [ff 36 3 2,ll 37 36,nn 38 false 37,mm 6 38] (sr [mm 39 6,bi 40 .gtr 39 0] (cd 40 (.row [ff 41 3 2,ll 42 41,mm 43 6,bi 44 .sub 43 1,ii 45 3 42 44,ff 46 0 45,ll 47 46,mm 5 47]) .skip))) (.seq (sr [mm 48 5,ff 49 2 2,ll 50 49,bt 51 .neq 48 50] (cd 51 (sr [ci 4 2] .ret) .skip)) (sr [ci 4 0] .ret)))))))
theorem fn191:Fn Qd 191 52 dc191 [.t 4]:=Am func191
def dc102:DC:=(sr [oo 1 (.box (.t 0)),ci 2 0] (.seq (sr [ff 4 0 1,ll 5 4,cc 6 201 [(.t 5)],mm 3 6] (sr [mm 7 3,bi 8 .neq 7 0] (cd 8 (sr [mm 9 3,mm 2 9] .ret) .skip))) (sr [oo 10 (.build [(.int .i64 0),(.bool false),(.int .i64 0),(.slice true [] [])] []),ff 11 1 1,lk 12 2 11,cc 13 191 [(.t 10),(.t 12)],mm 2 13] .ret)))
theorem fn102:Fn Qd 102 14 dc102 [.t 2]:=Am func102
def dc105l0:DC:=(sr [bt 14 .lss 13 12] (.seq (cd 14 .skip (.exit 0)) (.seq (.block 1 (sr [mm 15 13,ii 16 3 11 13,lk 17 3 16,oo 5 (.alloc [(.str []),(.int .i64 0),(.bool false)]),mm 4 15,oz (.store 3 (.t 5) (.t 17))] (.row [mm 18 3,mm 19 4,ff 20 0 5,ll 21 20,ii 22 1 18 19,oz (.store 1 (.t 22) (.t 21))]))) (.row [bi 23 .add 13 1,mm 13 23]))))
def dc105:DC:=(sr [oo 1 (.box (.t 0)),oo 2 (.mv (.c (.slice true [] [])))] (sr [ff 6 0 1,ll 7 6,nn 8 false 7,oo 9 (.mksl 9 1 16 (.str []) (.t 8) (.t 8)),mm 3 9] (.seq (sr [ff 10 0 1,ll 11 10,nn 12 false 11,ci 13 0] (.block 0 (.loop dc105l0))) (sr [mm 24 3,mm 2 24] .ret))))
theorem fn105:Fn Qd 105 25 dc105 [.t 2]:=Am func105
end Go.Vd
namespace Go.Vd
open Go.Proofs Go.RowKit
def F246:List D->Option D
 |[.int .i64 n,.int .i64 lo,.int .i64 hi]=>some (.bool (decide (lo<=n∧n<=hi)))
 |_=>none
theorem ok246:(Ac F246).ok Qd 246:=by
 refine Ay (S:=λ_=>none) AL fn246 (λds r h=>?_) (λds r h=>?_)
 ·unfold F246 at h;split at h
  ·simp
  ·cases h
 ·unfold F246 at h;split at h
  ·rename_i n lo hi;simp only[Qc]at h;subst h;unfold dc246;simp only[↓go1,go2,reduceIte,simprocAttr]
   repeat' (first|(refine ifQ.intro (λh=>?_) (λh=>?_)<;>try (exfalso;omega))|(simp only[↓go1,gB3,reduceIte,simprocAttr,h,and_self,false_and]))
   all_goals (simp_all<;>omega)
  ·cases h
def F294:List D->Option D
 |[.agg [.int .i64 a,.bool b,.int .i64 c,.slice nl t xs],.agg [.int .i64 q,.bool b2]]=>some (.int .i64 (if a=0 then q else a))
 |_=>none
theorem ok294:(Ac F294).ok Qd 294:=by
 refine Ay (S:=λ_=>none) AL fn294 (λds r h=>?_) (λds r h=>?_)
 ·unfold F294 at h;split at h
  ·simp
  ·cases h
 ·unfold F294 at h;split at h
  ·rename_i a b c nl t xs q b2;simp only[Qc]at h;subst h;unfold dc294;simp only[↓go1,gB2,go4,reduceIte,simprocAttr,Ag,Ql,Qq,Qh,and_self,Qi,Qn]
   repeat' (first|(refine ifQ.intro (λh=>?_) (λh=>?_)<;>try (exfalso;omega))|(simp only[↓go1,gB2,go4,reduceIte,simprocAttr,h,Ag,Ql,Qq,Qh,and_self,Qi,Qn,QS]))
   all_goals simp_all
  ·cases h
def F295:List D->Option D
 |[.slice nl t [],.fn g caps]=>some (.bool true)
 |_=>none
theorem ok295:(Ac F295).ok Qd 295:=by
 refine Ay (S:=λ_=>none) AL fn295 (λds r h=>?_) (λds r h=>?_)
 ·unfold F295 at h;split at h
  ·simp
  ·cases h
 ·unfold F295 at h;split at h
  ·rename_i nl t g caps;simp only[Qc]at h;subst h;unfold dc295;simp only[↓go1,go2,reduceIte,simprocAttr,Qz];refine Af dc295l0.eq_1 ?_;simp only[↓go1,gB3,reduceIte,simprocAttr,and_self,Zt,Zc]
  ·cases h
def F191:List D->Option D
 |[.agg [.int .i64 0,.bool b,.int .i64 0,.slice nl t []],.agg [.int .i64 q,.bool b2]]=>some (.int .i64 (if 1<=q∧q<=6 then 0 else 2))
 |_=>none
theorem ok191:(Ac F191).ok Qd 191:=by
 obtain⟨S,hS,hl⟩:=A5 (Ab ok246 (Ab ok294 (Ab ok295 Ad)));have s246:=hl 246 _ rfl;have s294:=hl 294 _ rfl;have s295:=hl 295 _ rfl;clear hl;refine Ay (S:=S) hS fn191 (λds r h=>?_) (λds r h=>?_)
 ·unfold F191 at h;split at h
  ·simp
  ·cases h
 ·unfold F191 at h;split at h
  ·rename_i b nl t q b2;simp only[Qc]at h;subst h;unfold dc191;have h246:∀n lo hi,F246 [.int .i64 n,.int .i64 lo,.int .i64 hi]=some (.bool (decide (lo<=n∧n<=hi))):=λ_ _ _=>rfl
   have h294:F294 [.agg [.int .i64 0,.bool b,.int .i64 0,.slice nl [] []],.agg [.int .i64 q,.bool b2]]=some (.int .i64 q):=rfl;have h295:∀nl t g caps,F295 [.slice nl t [],.fn g caps]=some (.bool true):=λ_ _ _ _=>rfl
   by_cases hq:1<=q∧q<=6
   ·have hq0:¬(q<0):=by omega
    simp only[↓go1,gB0,reduceIte,simprocAttr,Ag,Ao,Ap,Qe,Qi,Qn,QS,and_false,Aa s246,h246,Aa s294,h294,Aa s295,h295,hq,hq0,Zc];refine An.intro (Aj rfl) ?_;simp only[↓go1,gB0,reduceIte,simprocAttr,Ag,Qi,Qn,and_false,hq,Zt,Zc]
   ·simp only[↓go1,gB2,go4,reduceIte,simprocAttr,Ag,Ql,Qq,Qh,and_self,Qi,QS,Aa s246,h246,hq]
  ·cases h
end Go.Vd
namespace Go.Vd
open Go.Proofs
def dc210:DC:=(sr [cb 2 false] (sr [mm 3 0,mm 4 0,bt 5 .neq 3 4,mm 2 5] .ret))
theorem fn210:Fn Qd 210 6 dc210 [.t 2]:=Am func210
def dc109:DC:=(sr [ci 4 0] (sr [mm 7 0,cc 8 210 [(.t 7)],mm 5 8] (sr [mm 9 1,cc 10 210 [(.t 9)],mm 6 10] (.seq (sr [mm 11 5] (cd 11 (.seq (sr [mm 12 6] (cd 12 (sr [ci 4 0] .ret) .skip)) (sr [oo 4 (.mv (.c (.int .i64 (-1))))] .ret)) .skip)) (.seq (sr [mm 13 6] (cd 13 (sr [ci 4 1] .ret) .skip)) (.seq (sr [mm 14 0,mm 15 1,bt 16 .lss 14 15] (cd 16 (sr [oo 4 (.mv (.c (.int .i64 (-1))))] .ret) .skip)) (.seq (sr [mm 17 0,mm 18 1,bt 19 .gtr 17 18] (cd 19 (sr [ci 4 1] .ret) .skip)) (sr [ci 4 0] .ret))))))))
theorem fn109:Fn Qd 109 20 dc109 [.t 4]:=Am func109
def dc108:DC:=(sr [oo 2 (.box (.t 0)),oo 3 (.box (.t 1)),ci 4 0] (sr [ff 5 0 2,ll 6 5,ff 7 0 3,ll 8 7,cc 9 109 [(.t 6),(.t 8)],mm 4 9] .ret))
theorem fn108:Fn Qd 108 10 dc108 [.t 4]:=Am func108
end Go.Vd
namespace Go.Vd
open Go.Proofs Go.RowKit
abbrev Mt:=Bs×Int×Bool
def mtD(m:Mt):D:= .agg [.str m.1,.int .i64 m.2.1,.bool m.2.2]
def Ar(l:List Mt):List D:=l.map mtD
def mtT:D->Mt
 | .agg [.str p,.int .i64 q,.bool b]=>(p,q,b)
 |_=>([],0,false)
def B7(xs:List D):List Mt:=xs.map mtT
theorem Bf(l:List Mt):B7 (Ar l)=l:=by
 simp only[B7,Ar,QO]
 conv=>rhs;rw[←List.map_id l]
 exact QE λr _=>rfl
theorem Aw(l:List Mt):(Ar l).length=l.length:=Qv ..
theorem mtsD_elB(l:List Mt):(Ar l).all (elB (some 3))=true:=by
 rw[Qx];intro x hx;obtain⟨r,_,rfl⟩:=QC.1 hx;rfl
def Bk(l:List Mt)(j:Nat):Mt:=l.getD j ([],0,false)
theorem mtsD_at{l:List Mt}{j:Nat}(h:j<l.length):(Ar l)[j]?=some (mtD (Bk l j)):=by
 simp[Ar,Bk,Qg h]
def CR(p:Bs)(q:Int):Int:=if AV p≠0 then AV p else if 1<=q∧q<=6 then 0 else 2
def BR(l:List Mt)(p:Bs):Int:=A9 (l.map λm=>decide (m.1=p))
theorem idx203_ex{l:List Mt}{nl:Bool}{t:Id}(hl:l.length<=1000000){q:Bs}(m:Mem)(fr i:Id)(hm:m i 0=some (.str q)):
  (EC 204 (some 3) K204).ex [.slice nl t (Ar l),.fn 204 [.ptr i 0]] m fr=some (.int .i64 (BR l q),[]):=by
 have e:(Ar l).map (K204 (.str q))=(l.map λr=>decide (r.1=q)).map λb=>some (.bool b):=by
  simp only[Ar,QO];exact QE λr _=>rfl
 simp only[EC,Aw,hl,mtsD_elB,and_self,if_true,E7,hm,Qe,e,C5,QN];rfl
def En(s:Bs)(l:List Bs):Bool:=l.any λq=>A3 s q||A3 q s
theorem cn192_ex{l:List Bs}{nl:Bool}{t:Id}(hl:l.length<=1000000){s:Bs}(m:Mem)(fr i:Id)(hm:m i 0=some (.str s)):
  (cnS 205 none K205).ex [.slice nl t (l.map .str),.fn 205 [.ptr i 0]] m fr=some (.bool (En s l),[]):=by
 have e:(l.map D.str).map (K205 (.str s))=(l.map λq=>A3 s q||A3 q s).map λb=>some (.bool b):=by
  simp only[QO];exact QE λr _=>rfl
 have hel:(l.map D.str).all (elB none)=true:=by
  rw[Qx];intro x hx;obtain⟨r,_,rfl⟩:=QC.1 hx;rfl
 simp only[cnS,Qv,hl,hel,and_self,if_true,E7,hm,Qe,e,C5,QN];simp only[En,List.any_map];rfl
def F102:List D->Option D
 |[.agg [.str p,.int .i64 q,.bool b]]=>if p.length<=1000000 then some (.int .i64 (CR p q))else none
 |_=>none
theorem ok102:(Ac F102).ok Qd 102:=by
 obtain⟨S,hS,hl⟩:=A5 (Ab ok201 (Ab ok191 Ad));have s201:=hl 201 _ rfl;have s191:=hl 191 _ rfl;clear hl;refine Ay (S:=S) hS fn102 (λds r h=>?_) (λds r h=>?_)
 ·unfold F102 at h;split at h
  ·simp
  ·cases h
 ·unfold F102 at h;split at h
  ·rename_i p q b;split at h
   ·rename_i hc;simp only[Qc]at h;subst h;unfold dc102;have h201:F201 [.str p]=some (.int .i64 (AV p)):=if_pos hc;have h191:F191 [.agg [.int .i64 0,.bool false,.int .i64 0,.slice true [] []],.agg [.int .i64 q,.bool b]]=some (.int .i64 (if 1<=q∧q<=6 then 0 else 2)):=rfl;unfold CR;generalize AV p=e at *;generalize (if 1<=q∧q<=6 then(0:Int)else 2)=e2 at *;by_cases he:e=0
    ·subst he;simp only[↓go1,gB0,reduceIte,Qa,Qb,Ag,Ao,Ap,QL,Qe,BH,Aa s201,h201,Aa s191,h191,ne_eq]
    ·simp only[↓go1,gB2,go4,reduceIte,Qa,Qb,Ag,Ql,QL,Qq,Qh,and_self,Aa s201,h201,he,ne_eq]
   ·cases h
  ·cases h
open Classical in
def F103:List D->Option D
 |[.agg [.slice _ _ xs],.str p]=>if xs=Ar (B7 xs)∧xs.length<=1000000 then some (.int .i64 (BR (B7 xs) p))else none
 |_=>none
open Classical in
theorem F103_eq{nl:Bool}{t:Id}{l:List Mt}{p:Bs}(hl:l.length<=1000000):F103 [.agg [.slice nl t (Ar l)],.str p]=some (.int .i64 (BR l p)):=by
 have h:Ar l=Ar (B7 (Ar l))∧(Ar l).length<=1000000:=by rw[Bf,Aw];exact⟨rfl,hl⟩
 show(if _ then _ else _)=_;rw[if_pos h,Bf]
theorem ok103:(Ac F103).ok Qd 103:=by
 obtain⟨S,hS,hl⟩:=A5 (Ab idx203 Ad);have s203:=hl 203 _ rfl;clear hl;refine Ay (S:=S) hS fn103 (λds r h=>?_) (λds r h=>?_)
 ·unfold F103 at h;split at h
  ·simp
  ·cases h
 ·unfold F103 at h;split at h
  ·rename_i nl t xs p;split at h
   ·rename_i hc;obtain⟨hx,hlen⟩:=hc;simp only[Qc]at h;subst h;generalize B7 xs=l at hx;subst hx;rw[Aw]at hlen;unfold dc103;simp only[↓go1,gB2,go4,reduceIte,Qa,Qb,Ag,Ql,QL,Qq,Qh,and_self,Qi,Qn,QS,Ah s203,idx203_ex (q:=p) hlen]
   ·cases h
  ·cases h
def F104:List D->Option D
 |[.str s,.slice _ _ xs]=>(FI xs).bind λl=>if l.length<=1000000 then some (.bool (En s l))else none
 |_=>none
theorem F104_eq{s:Bs}{nl:Bool}{t:Id}{l:List Bs}(hl:l.length<=1000000):F104 [.str s,.slice nl t (l.map .str)]=some (.bool (En s l)):=by
 simp only[F104,FH,Qe];exact if_pos hl
theorem ok104:(Ac F104).ok Qd 104:=by
 obtain⟨S,hS,hl⟩:=A5 (Ab cn192 Ad);have s192:=hl 192 _ rfl;clear hl;refine Ay (S:=S) hS fn104 (λds r h=>?_) (λds r h=>?_)
 ·unfold F104 at h;split at h
  ·simp
  ·cases h
 ·unfold F104 at h;split at h
  ·rename_i s nl t xs;rw[QM]at h;obtain⟨l,hs,h⟩:=h;obtain rfl:=EH hs;split at h
   ·rename_i hl;simp only[Qc]at h;subst h;unfold dc104;simp only[↓go1,gB2,go4,reduceIte,Qa,Qb,Ag,Ql,QL,Qq,Qh,and_self,Ah s192,cn192_ex (s:=s) hl]
   ·cases h
  ·cases h
theorem RI.base{fr r:Id}{m0 m0' m:Mem}{l:List Bs}{j:Nat}(h:RI fr r m0' m l j)(e:∀i o,¬fr<:+i->m0' i o=m0 i o):RI fr r m0 m l j:=
 ⟨h.row,λi o hn=>(h.out i o hn).trans (e i o hn)⟩
open Classical in
def F105:List D->Option (List Bs)
 |[.agg [.slice _ _ xs]]=>if xs=Ar (B7 xs)∧xs.length<=1000000 then some ((B7 xs).map (·.1))else none
 |_=>none
open Classical in
theorem F105_eq{nl:Bool}{t:Id}{l:List Mt}(hl:l.length<=1000000):F105 [.agg [.slice nl t (Ar l)]]=some (l.map (·.1)):=by
 have h:Ar l=Ar (B7 (Ar l))∧(Ar l).length<=1000000:=by rw[Bf,Aw];exact⟨rfl,hl⟩
 show(if _ then _ else _)=_;rw[if_pos h,Bf]
open Classical in
theorem F105_inv{ds:List D}{r:List Bs}(h:F105 ds=some r):∃nl t l,ds=[.agg [.slice nl t (Ar l)]]∧l.length<=1000000∧r=l.map (·.1):=by
 unfold F105 at h;split at h
 ·rename_i nl t xs;split at h
  ·rename_i hc;obtain⟨h1,h2⟩:=hc;simp only[Qc]at h;subst h;refine⟨nl,t,B7 xs,by rw[←h1],?_,rfl⟩;rw[h1,Aw]at h2;exact h2
  ·cases h
 ·cases h
theorem loop105{S:Summs}{fr:Id}{l:List Mt}{nl:Bool}{t:Id}{m0:Mem}{k:Nat}{Q:Ex->St->Prop}(hb:l.length<=1000000)
  (hexit:∀st,st.s 3= .row (k::fr) l.length->RI fr (k::fr) m0 st.m (l.map (·.1)) l.length->Q (.exit 0) st):
  ∀(f j:Nat) st g,l.length=j+f->k<st.c->st.s 3= .row (k::fr) l.length->st.s 11= .slice nl t (Ar l)->st.s 12= .int .i64 (l.length:Int)->st.s 13= .int .i64 (j:Int)->RI fr (k::fr) m0 st.m (l.map (·.1)) j->A6 S fr dc105l0 Q st g:=by
 intro f;induction f with
 |zero=>
  intro j st g hf hc h3 h11 h12 h13 I;refine Af dc105l0.eq_1 ?_;have:¬((j:Int)<l.length):=by omega
  simp only[↓go1,go2,go4,reduceIte,Qb,h12,h13,this];exact hexit _ h3 (by rw[show l.length=j by omega];exact I)
 |succ f ih=>
  intro j st g hf hc h3 h11 h12 h13 I;refine Af dc105l0.eq_1 ?_;have hj:j<l.length:=by omega
  have hlt:((j:Int)<l.length):=by omega
  have hj0:(0:Int)<=(j:Int):=by omega
  have hw:IntKind.i64.wrap ((j:Int)+1)=((j+1:Nat):Int):=w64 (by omega) (by omega);have hat:(Ar l)[j]?=some (.agg [.str (Bk l j).1,.int .i64 (Bk l j).2.1,.bool (Bk l j).2.2]):=mtsD_at hj;have hg:(l.map (·.1)).getD j []=(Bk l j).1:=by simp[Bk,Qg hj]
  generalize Bk l j=r at hat hg;have hne1:((st.c+1+3)::fr=k::fr)=False:=eq_false (by simp;omega);have hne2:(k::fr=(st.c+1+3)::fr)=False:=eq_false (by simp;omega);have hrow:=I.row j (by simpa using hj);rw[if_neg (by omega)]at hrow;obtain⟨st_s,st_m,st_c⟩:=st;simp only at h3 h11 h12 h13 hc hne1 hne2 hrow I;simp only[↓go1,gB0,reduceIte,Qa,Qb,h3,h11,h12,h13,hlt,hj0,hw,Qf,hat,hne2,hrow,Qw,false_and,Ag,Ao,Ap,QL,Qe,Qp,Qu,Qk,false_and];refine ih (j+1) _ _ (by omega) (by simp only;omega) h3 h11 h12 rfl ?_;rw[←hg];exact((I.put (by simp;omega)).put (by simp;omega)).fill (Zl _ _)
theorem ok105:(rowS F105).ok Qd 105:=by
 refine rowS_ok (S:=λ_=>none) AL fn105 (λds r m fr h hfr=>?_);obtain⟨nl,t,l,rfl,hl,rfl⟩:=F105_inv h;refine⟨by simp,?_⟩;have hn0:((0:Int)<=(l.length:Int)):=by omega
 have hnb:((l.length:Int)*(((16:Nat):Int)+1)<=140737488355328)=True:=eq_true (by omega);unfold dc105;simp only[↓go1,gB2,go4,reduceIte,Qa,Qb,hn0,hnb,Aw,Qf,Zr,Ag,Ql,QL,Qq,Qh,and_self,Qi,false_and];refine loop105 (l:=l) (nl:=nl) (t:=t) (m0:=m) (k:=5) hl (λst h1 h2=>?_) l.length 0 _ _ (by omega) (by simp only;omega) rfl rfl rfl rfl ?_
 ·simp only[↓go1,go2,reduceIte,Qa,Qb,h1,Qv];exact⟨_,rfl,Zl _ _,h2⟩
 ·exact RI.base (RI.start (by simp[])) (λi o hn=>Mem.put_other (λe=>hn (by rw[e];exact Zl _ _)))
end Go.Vd
namespace Go.Vd
open Go.Proofs
def dc48:DC:=(sr [oo 0 (.alloc [(.slice true [] [])])] (sr [cc 1 112 [],oo 2 (.bslice 97 3 [(.t 1)]),oo 3 (.build [(.slice true [] [])] [(0,1,(.t 2))]),oz (.store 1 (.t 0) (.t 3))] .ret))
theorem fn48:Fn Qd 48 4 dc48 [.cell (some 1) 0]:=Am func48
def dc112:DC:=(sr [oo 0 (.alloc [(.str []),(.str []),(.slice true [] [])])] (sr [oo 1 (.build [(.str []),(.int .u8 0)] [(1,1,(.c (.int .u8 63)))]),oo 2 (.bslice 209 2 [(.t 1)]),oo 3 (.build [(.str []),(.str []),(.slice true [] [])] [(0,1,(.c (.str [114,111,111,116]))),(2,1,(.t 2))]),oz (.store 3 (.t 0) (.t 3))] .ret))
theorem fn112:Fn Qd 112 4 dc112 [.cell (some 3) 0]:=Am func112
def dc113:DC:=(sr [oo 1 (.box (.t 0)),ci 2 0] (.seq (sr [ff 4 0 1,ll 5 4,cc 6 213 [(.t 5)],oo 7 (.un .not (.t 6))] (cd 7 (sr [ci 2 2] .ret) .skip)) (.seq (sr [ff 8 2 1,ll 9 8,cc 10 214 [(.t 9)],mm 3 10] (sr [mm 11 3,bi 12 .neq 11 0] (cd 12 (sr [mm 13 3,mm 2 13] .ret) .skip))) (.seq (.block 0 (sr [ff 15 1 1,ll 16 15,oo 17 (.bin .eql (.t 16) (.c (.str []))),mm 18 17,og 19 (.faddr 0 (.t 1)) 3 true,og 20 (.load none (.t 19)) 3 true,og 21 (.bin .eql (.t 20) (.c (.str [114,111,111,116]))) 3 true,oo 22 (.pick (.t 18) (.t 21) (.c (.bool false))),mm 14 22] (cd 14 (sr [ci 2 0] .ret) (sr [ff 24 1 1,ll 25 24,cc 26 213 [(.t 25)],mm 27 26,og 28 (.faddr 1 (.t 1)) 3 true,og 29 (.load none (.t 28)) 3 true,og 30 (.faddr 0 (.t 1)) 3 true,og 31 (.load none (.t 30)) 3 true,og 32 (.bin .neq (.t 29) (.t 31)) 3 true,oo 33 (.pick (.t 27) (.t 32) (.c (.bool false))),mm 23 33] (cd 23 (sr [ci 2 0] .ret) .skip))))) (sr [ci 2 2] .ret)))))
theorem fn113:Fn Qd 113 34 dc113 [.t 2]:=Am func113
def dc93:DC:=(sr [oo 2 (.box (.t 0)),ci 4 0,cb 5 false] (sr [ff 6 0 2,ll 7 6,mm 8 1,cc 9 195 [(.t 7),(.t 8),(.c (.fn 196 []))],xx 10 0 9,xx 11 1 9,mm 4 10,mm 5 11] .ret))
theorem fn93:Fn Qd 93 12 dc93 [.t 4,.t 5]:=Am func93
def dc195l0:DC:=(.seq (sr [mm 15 9,mm 16 10,bt 17 .lss 15 16] (cd 17 .skip (.exit 0))) (.block 1 (sr [mm 18 9,mm 19 10,bt 20 .add 18 19,oo 21 (.conv .u64 (.t 20)),oo 22 (.bin .shr (.t 21) (.c (.int .u64 1))),oo 23 (.conv .i64 (.t 22)),mm 11 23] (sr [mm 24 2,mm 25 0,mm 26 11,ii 27 3 25 26,lk 28 3 27,mm 29 1,oo 30 (.call (.t 24) [(.t 28),(.t 29)]),bi 31 .lss 30 0] (cd 31 (.row [mm 32 11,bi 33 .add 32 1,mm 9 33]) (.row [mm 34 11,mm 10 34]))))))
def dc195:DC:=(sr [ci 6 0,cb 7 false] (sr [mm 12 0,nn 13 false 12,mm 8 13] (sr [mm 14 8,ci 9 0,mm 10 14] (.seq (.block 0 (.loop dc195l0)) (sr [mm 35 9,mm 36 9,mm 37 8,bt 38 .lss 36 37,mm 39 38,og 40 (.mv (.t 2)) 4 true,og 41 (.mv (.t 0)) 4 true,og 42 (.mv (.t 9)) 4 true,og 43 (.iaddr 3 (.t 41) (.t 42)) 4 true,og 44 (.load (some 3) (.t 43)) 4 true,og 45 (.mv (.t 1)) 4 true,og 46 (.call (.t 40) [(.t 44),(.t 45)]) 4 true,og 47 (.bin .eql (.t 46) (.c (.int .i64 0))) 4 true,oo 48 (.pick (.t 39) (.t 47) (.c (.bool false))),mm 6 35,mm 7 48] .ret)))))
theorem fn195:Fn Qd 195 49 dc195 [.t 6,.t 7]:=Am func195
def dc196:DC:=(sr [oo 2 (.box (.t 0)),ci 4 0] (sr [ff 5 0 2,ll 6 5,mm 7 1,cc 8 109 [(.t 6),(.t 7)],mm 4 8] .ret))
theorem fn196:Fn Qd 196 9 dc196 [.t 4]:=Am func196
def dc115:DC:=(sr [oo 2 (.box (.t 0)),oo 3 (.box (.t 1)),oo 4 (.alloc [(.slice true [] [])])] (sr [lk 8 1 2,ff 9 0 3,ll 10 9,cc 11 93 [(.t 8),(.t 10)],mm 7 11,xx 12 0 7,xx 13 1 7,mm 5 12,mm 6 13] (.seq (.drawn [ff 14 0 2,ll 15 14,mm 16 5,oo 17 (.cutl 3 (.t 15) none (some (.t 16))),lk 18 3 3,cc 19 94 [(.t 18)],oo 20 (.bslice 97 3 [(.t 19)]),ff 21 0 2,ll 22 21,mm 23 5,oo 24 (.cutl 3 (.t 22) (some (.t 23)) none),oo 25 (.bslice 53 1 [(.t 17),(.t 20),(.t 24)]),cc 26 216 [(.t 25)],oo 27 (.build [(.slice true [] [])] [(0,1,(.t 26))]),oz (.store 1 (.t 4) (.t 27))] [(5,1),(5,8),(6,1),(6,8)]) .ret)))
theorem fn115:Fn Qd 115 28 dc115 [.cell (some 1) 4]:=Am func115
def dc94:DC:=(sr [oo 1 (.box (.t 0)),oo 2 (.alloc [(.str []),(.str []),(.slice true [] [])])] (sr [ff 3 2 1,ll 4 3,cc 5 197 [(.t 4)],ff 6 2 1,oz (.store 1 (.t 6) (.t 5))] (sr [lk 7 3 1,oz (.store 3 (.t 2) (.t 7))] .ret)))
theorem fn94:Fn Qd 94 8 dc94 [.cell (some 3) 2]:=Am func94
def dc197:DC:=(sr [oo 2 (.mv (.c (.slice true [] [])))] (.seq (sr [mm 3 0,oo 4 (.nileq false 0 (.t 3) (.c (.slice true [] [])))] (cd 4 (sr [oo 2 (.mv (.c (.slice true [] [])))] .ret) .skip)) (sr [oo 5 (.bslice 209 2 []),mm 6 0,oo 7 (.app 209 2 24 (.t 5) (.t 6)),mm 2 7] .ret)))
theorem fn197:Fn Qd 197 8 dc197 [.t 2]:=Am func197
def dc216l0:DC:=(sr [bt 12 .lss 11 10] (.seq (cd 12 .skip (.exit 0)) (.seq (.block 1 (sr [ii 13 1 9 11,ll 14 13,mm 5 14] (sr [mm 15 3,mm 16 5,nn 17 false 16,bt 18 .add 15 17,mm 3 18] (sr [mm 19 3,bi 20 .lss 19 0] (cd 20 (.row [oo 21 (.mkif 9 (.c (.str [108,101,110,32,111,117,116,32,111,102,32,114,97,110,103,101]))),oz (.stop)]) .skip))))) (.row [bi 22 .add 11 1,mm 11 22]))))
def dc216l1:DC:=(sr [bt 28 .lss 27 26] (.seq (cd 28 .skip (.exit 2)) (.seq (.block 3 (sr [ii 29 1 25 27,ll 30 29,mm 8 30] (.row [mm 31 6,mm 32 8,oo 33 (.app 97 3 56 (.t 31) (.t 32)),mm 6 33]))) (.row [bi 34 .add 27 1,mm 27 34]))))
def dc216:DC:=(sr [oo 2 (.mv (.c (.slice true [] [])))] (sr [ci 3 0] (.seq (sr [mm 9 0,nn 10 false 9,ci 11 0] (.block 0 (.loop dc216l0))) (sr [mm 23 3,cc 24 315 [(.c (.slice true [] [])),(.t 23)],mm 6 24] (.seq (sr [mm 25 0,nn 26 false 25,ci 27 0] (.block 2 (.loop dc216l1))) (sr [mm 35 6,mm 2 35] .ret))))))
theorem fn216:Fn Qd 216 36 dc216 [.t 2]:=Am func216
def dc50:DC:=(sr [oo 2 (.box (.t 0)),oo 3 (.box (.t 1)),oo 4 (.alloc [(.slice true [] [])]),ci 5 0] (.seq (sr [lk 11 3 3,cc 12 113 [(.t 11)],mm 6 12] (sr [mm 13 6,bi 14 .neq 13 0] (cd 14 (sr [lk 15 1 2,mm 16 6,oz (.store 1 (.t 4) (.t 15)),mm 5 16] .ret) .skip))) (.seq (sr [ff 17 1 3,ll 18 17,oo 19 (.bin .eql (.t 18) (.c (.str [])))] (cd 19 (sr [lk 20 1 2,oz (.store 1 (.t 4) (.t 20)),ci 5 2] .ret) .skip)) (.seq (sr [lk 22 1 2,ff 23 0 3,ll 24 23,cc 25 93 [(.t 22),(.t 24)],mm 21 25,xx 26 0 21,xx 27 1 21,mm 7 26,mm 8 27] (sr [mm 28 8] (cd 28 (sr [lk 29 1 2,oz (.store 1 (.t 4) (.t 29)),ci 5 20] .ret) .skip))) (sr [lk 31 1 2,ff 32 1 3,ll 33 32,cc 34 93 [(.t 31),(.t 33)],mm 30 34,xx 35 0 30,xx 36 1 30,mm 9 35,mm 10 36] (.seq (sr [mm 37 10,oo 38 (.un .not (.t 37))] (cd 38 (sr [lk 39 1 2,oz (.store 1 (.t 4) (.t 39)),ci 5 6] .ret) .skip)) (.seq (.seq (.drawn [ff 40 2 3,ll 41 40,ff 42 0 2,ll 43 42,mm 44 9,ii 45 3 43 44,ff 46 2 45,ll 47 46,cc 48 114 [(.t 41),(.t 47)],oo 49 (.un .not (.t 48))] []) (cd 49 (sr [lk 50 1 2,oz (.store 1 (.t 4) (.t 50)),ci 5 13] .ret) .skip)) (sr [lk 51 1 2,lk 52 3 3,cc 53 115 [(.t 51),(.t 52)],oz (.store 1 (.t 4) (.t 53)),ci 5 0] .ret))))))))
theorem fn50:Fn Qd 50 54 dc50 [.cell (some 1) 4,.t 5]:=Am func50
def dc35:DC:=(sr [oo 2 (.box (.t 0)),oo 4 (.alloc [(.str []),(.str []),(.slice true [] [])]),cb 5 false] (sr [lk 9 1 2,mm 10 1,cc 11 93 [(.t 9),(.t 10)],mm 8 11,xx 12 0 8,xx 13 1 8,mm 6 12,mm 7 13] (.seq (sr [mm 14 7,oo 15 (.un .not (.t 14))] (cd 15 (sr [oo 16 (.build [(.str []),(.str []),(.slice true [] [])] []),oz (.store 3 (.t 4) (.t 16)),cb 5 false] .ret) .skip)) (sr [ff 17 0 2,ll 18 17,mm 19 6,ii 20 3 18 19,lk 21 3 20,cc 22 94 [(.t 21)],oz (.store 3 (.t 4) (.t 22)),cb 5 true] .ret))))
theorem fn35:Fn Qd 35 23 dc35 [.cell (some 3) 4,.t 5]:=Am func35
def dc36:DC:=(sr [oo 3 (.box (.t 0)),oo 6 (.mv (.c (.int .u8 0)))] (sr [lk 10 1 3,mm 11 1,cc 12 93 [(.t 10),(.t 11)],mm 9 12,xx 13 0 9,xx 14 1 9,mm 7 13,mm 8 14] (.seq (sr [mm 15 8,oo 16 (.un .not (.t 15))] (cd 16 (sr [oo 6 (.mv (.c (.int .u8 0)))] .ret) .skip)) (sr [ff 17 0 3,ll 18 17,mm 19 7,ii 20 3 18 19,ff 21 2 20,ll 22 21,mm 23 2,cc 24 95 [(.t 22),(.t 23)],mm 6 24] .ret))))
theorem fn36:Fn Qd 36 25 dc36 [.t 6]:=Am func36
def dc129l0:DC:=(sr [bt 10 .lss 9 8] (.seq (cd 10 .skip (.exit 0)) (.seq (.block 1 (sr [ii 11 3 7 9,lk 12 3 11,oo 5 (.alloc [(.str []),(.str []),(.slice true [] [])]),oz (.store 3 (.t 5) (.t 12))] (.row [mm 13 3,ff 14 0 5,ll 15 14,oo 16 (.bslice 9 1 [(.t 15)]),oo 17 (.app 9 1 16 (.t 13) (.t 16)),mm 3 17]))) (.row [bi 18 .add 9 1,mm 9 18]))))
def dc129:DC:=(sr [oo 1 (.box (.t 0)),oo 2 (.mv (.c (.slice true [] [])))] (sr [oo 3 (.mv (.c (.slice true [] [])))] (.seq (sr [ff 6 0 1,ll 7 6,nn 8 false 7,ci 9 0] (.block 0 (.loop dc129l0))) (sr [mm 19 3,mm 2 19] .ret))))
theorem fn129:Fn Qd 129 20 dc129 [.t 2]:=Am func129
end Go.Vd
namespace Go.Vd
open Go.Proofs Go.RowKit
theorem v_slss{a b:Bs}:AX .lss (.str a) (.str b)=some (.bool (Op.bytesLess a b)):=by simp[AX]
theorem v_sgtr{a b:Bs}:AX .gtr (.str a) (.str b)=some (.bool (!(Op.bytesLess a b||a==b))):=by simp[AX]
def FA(a b:Bs):Int:=if Op.bytesLess a b=true then-1 else if a=b then 0 else 1
def F210:List D->Option D
 |[.str s]=>some (.bool false)
 |_=>none
theorem ok210:(Ac F210).ok Qd 210:=by
 refine Ay (S:=λ_=>none) AL fn210 (λds r h=>?_) (λds r h=>?_)
 ·unfold F210 at h;split at h
  ·simp
  ·cases h
 ·unfold F210 at h;split at h
  ·rename_i s;simp only[Qc]at h;subst h;unfold dc210;simp only[↓go1,gB3,reduceIte,Qa,Qb,and_self]
  ·cases h
def F109:List D->Option D
 |[.str a,.str b]=>some (.int .i64 (FA a b))
 |_=>none
theorem ok109:(Ac F109).ok Qd 109:=by
 obtain⟨S,hS,hl⟩:=A5 (Ab ok210 Ad);have s210:=hl 210 _ rfl;clear hl;refine Ay (S:=S) hS fn109 (λds r h=>?_) (λds r h=>?_)
 ·unfold F109 at h;split at h
  ·simp
  ·cases h
 ·unfold F109 at h;split at h
  ·rename_i a b;simp only[Qc]at h;subst h;unfold dc109;have h210:∀s,F210 [.str s]=some (.bool false):=λ_=>rfl
   unfold FA;cases hl:Op.bytesLess a b with
   |true=>simp only[↓go1,gB3,reduceIte,Qa,Qb,and_self,Aa s210,h210,v_slss,hl]
   |false=>
    by_cases he:a=b
    ·subst he;have he':(a==a)=true:=by simp
     simp only[↓go1,gB3,reduceIte,Qa,Qb,and_self,Aa s210,h210,v_slss,v_sgtr,hl,he',Bool.false_or]
    ·have he':(a==b)=false:=by simpa using he
     simp only[↓go1,gB3,reduceIte,Qa,Qb,and_self,Aa s210,h210,v_slss,v_sgtr,hl,he',he,Bool.or_false]
  ·cases h
def F108:List D->Option D
 |[.agg [.str p,.int .i64 q,.bool b],.agg [.str p2,.int .i64 q2,.bool b2]]=>some (.int .i64 (FA p p2))
 |_=>none
theorem ok108:(Ac F108).ok Qd 108:=by
 obtain⟨S,hS,hl⟩:=A5 (Ab ok109 Ad);have s109:=hl 109 _ rfl;clear hl;refine Ay (S:=S) hS fn108 (λds r h=>?_) (λds r h=>?_)
 ·unfold F108 at h;split at h
  ·simp
  ·cases h
 ·unfold F108 at h;split at h
  ·rename_i p q b p2 q2 b2;simp only[Qc]at h;subst h;unfold dc108;have h109:∀a b,F109 [.str a,.str b]=some (.int .i64 (FA a b)):=λ_ _=>rfl
   simp only[↓go1,gB2,go4,reduceIte,Qa,Qb,Ag,Ql,QL,Qq,Qh,and_self,Qi,Qn,QS,Aa s109,h109]
  ·cases h
def F196:List D->Option D
 |[.agg [.str n,.str p,.slice nl t xs],.str s]=>some (.int .i64 (FA n s))
 |_=>none
theorem ok196:(Ac F196).ok Qd 196:=by
 obtain⟨S,hS,hl⟩:=A5 (Ab ok109 Ad);have s109:=hl 109 _ rfl;clear hl;refine Ay (S:=S) hS fn196 (λds r h=>?_) (λds r h=>?_)
 ·unfold F196 at h;split at h
  ·simp
  ·cases h
 ·unfold F196 at h;split at h
  ·rename_i n p nl t xs s;simp only[Qc]at h;subst h;unfold dc196;have h109:∀a b,F109 [.str a,.str b]=some (.int .i64 (FA a b)):=λ_ _=>rfl
   simp only[↓go1,gB2,go4,reduceIte,Qa,Qb,Ag,Ql,QL,Qq,Qh,and_self,Aa s109,h109]
  ·cases h
abbrev Tk:=Bs×Bs×Bool×List Rl
def tkD(k:Tk):D:= .agg [.str k.1,.str k.2.1,.slice k.2.2.1 [] (Al k.2.2.2)]
def Av(l:List Tk):List D:=l.map tkD
def tkT:D->Tk
 | .agg [.str n,.str p,.slice nl _ xs]=>(n,p,nl,A7 xs)
 |_=>([],[],true,[])
def BS(xs:List D):List Tk:=xs.map tkT
theorem Bb(l:List Tk):BS (Av l)=l:=by
 simp only[BS,Av,QO]
 conv=>rhs;rw[←List.map_id l]
 exact QE λr _=>by simp only[Function.comp,tkD,tkT,AN,id]
theorem AP(l:List Tk):(Av l).length=l.length:=Qv ..
def A4(l:List Tk)(j:Nat):Tk:=l.getD j ([],[],true,[])
theorem D5{l:List Tk}{j:Nat}(h:j<l.length):(Av l)[j]?=some (tkD (A4 l j)):=by
 simp[Av,A4,Qg h]
def bsR(l:List Tk)(s:Bs):Nat->Nat->Nat->Nat
 |0,lo,_=>lo
 |f+1,lo,hi=>if lo<hi then(if FA (A4 l ((lo+hi) / 2)).1 s<0 then bsR l s f ((lo+hi) / 2+1) hi else bsR l s f lo ((lo+hi) / 2))else lo
def bsE(l:List Tk)(s:Bs):Nat:=bsR l s l.length 0 l.length
def AW(l:List Tk)(s:Bs):Bool:=decide (bsE l s<l.length)&&decide (FA (A4 l (bsE l s)).1 s=0)
theorem bs_mid{lo hi:Nat}(h:lo+hi<1000000000):IntKind.i64.wrap ((IntKind.u64.wrap (IntKind.i64.wrap ((lo:Int)+(hi:Int)))).fdiv (2 ^ min (1:Int).toNat IntKind.u64.bits))=(((lo+hi) / 2:Nat):Int):=by
 have h1:IntKind.i64.wrap ((lo:Int)+(hi:Int))=((lo+hi:Nat):Int):=by rw[w64 (by omega) (by omega)];omega
 have h2:IntKind.u64.wrap ((lo+hi:Nat):Int)=((lo+hi:Nat):Int):=by
  simp only[IntKind.wrap,IntKind.signed,IntKind.bits,Zd,Ze,if_false];omega
 have h3:(((lo+hi:Nat):Int)).fdiv (2 ^ min (1:Int).toNat IntKind.u64.bits)=(((lo+hi) / 2:Nat):Int):=by
  rw[show(2:Int) ^ min (1:Int).toNat IntKind.u64.bits=2 from rfl,Int.fdiv_eq_ediv_of_nonneg _ (by omega)];omega
 rw[h1,h2,h3,w64 (by omega) (by omega)]
theorem loop195{S:Summs}{ns:Id}{l:List Tk}{nl:Bool}{t:Id}{s:Bs}{Q:Ex->St->Prop}{e:Nat}(s196:S 196=some (Ac F196))(hb:l.length<=1000000)
  (hexit:∀st,st.s 0= .slice nl t (Av l)->st.s 1= .str s->st.s 2= .fn 196 []->st.s 8= .int .i64 (l.length:Int)->st.s 9= .int .i64 (e:Int)->Q (.exit 0) st):
  ∀(f lo hi:Nat) st g,hi<=lo+f->hi<=l.length->bsR l s f lo hi=e->st.s 0= .slice nl t (Av l)->st.s 1= .str s->st.s 2= .fn 196 []->st.s 8= .int .i64 (l.length:Int)->st.s 9= .int .i64 (lo:Int)->st.s 10= .int .i64 (hi:Int)->A6 S ns dc195l0 Q st g:=by
 intro f;induction f with
 |zero=>
  intro lo hi st g hf hh he h0 h1 h2 h8 h9 h10;refine Af dc195l0.eq_1 ?_;have:¬((lo:Int)<hi):=by omega
  simp only[↓go1,go2,go4,reduceIte,Qa,Qb,h9,h10,this];exact hexit _ h0 h1 h2 h8 (by rw[←he];exact h9)
 |succ f ih=>
  intro lo hi st g hf hh he h0 h1 h2 h8 h9 h10;refine Af dc195l0.eq_1 ?_;unfold bsR at he;by_cases hlt:lo<hi
  ·rw[if_pos hlt]at he;have hlt':((lo:Int)<hi):=by omega
   have hmid:=bs_mid (lo:=lo) (hi:=hi) (by omega);have hml:(lo+hi) / 2<hi:=by omega
   have hlm:lo<=(lo+hi) / 2:=by omega
   generalize (lo+hi) / 2=mid at he hmid hml hlm;have hm0:(0:Int)<=(mid:Int):=by omega
   have one0:(0:Int)<=1:=by omega
   have hw:IntKind.i64.wrap ((mid:Int)+1)=((mid+1:Nat):Int):=w64 (by omega) (by omega);have hat:=D5 (l:=l) (j:=mid) (by omega);generalize A4 l mid=k at hat he;obtain⟨n,p,knl,rs⟩:=k;replace hat:(Av l)[mid]?=some (.agg [.str n,.str p,.slice knl [] (Al rs)]):=hat;have h196:F196 [.agg [.str n,.str p,.slice knl [] (Al rs)],.str s]=some (.int .i64 (FA n s)):=rfl;simp only at he;generalize FA n s=c at he h196;obtain⟨st_s,st_m,st_c⟩:=st;simp only at h0 h1 h2 h8 h9 h10;by_cases hc:c<0
   ·rw[if_pos hc]at he;simp only[↓go1,gB2,go4,reduceIte,Qa,Qb,h0,h1,h2,h9,h10,hlt',hmid,hm0,one0,hw,hat,hc,Qf,Aa s196,h196,QD,Qp,Qu];exact ih (mid+1) hi _ _ (by omega) hh he h0 h1 h2 h8 rfl h10
   ·rw[if_neg hc]at he;simp only[↓go1,gB2,go4,reduceIte,Qa,Qb,h0,h1,h2,h9,h10,hlt',hmid,hm0,one0,hat,hc,Qf,Aa s196,h196,QD,Qp,Qu];exact ih lo mid _ _ (by omega) (by omega) he h0 h1 h2 h8 h9 rfl
  ·rw[if_neg hlt]at he;have hlt':¬((lo:Int)<hi):=by omega
   simp only[↓go1,go2,go4,reduceIte,Qa,Qb,h9,h10,hlt'];exact hexit _ h0 h1 h2 h8 (by rw[←he];exact h9)
theorem bsR_le(l:List Tk)(s:Bs):∀(f lo hi:Nat),lo<=hi->bsR l s f lo hi<=hi
 |0,lo,hi,h=>by simpa[bsR]using h
 |f+1,lo,hi,h=>by
  unfold bsR;split
  ·split
   ·exact bsR_le l s f _ _ (by omega)
   ·exact QX (bsR_le l s f _ _ (by omega)) (by omega)
  ·exact h
open Classical in
def F195:List D->Option D
 |[.slice _ _ xs,.str s,.fn 196 []]=>if xs=Av (BS xs)∧xs.length<=1000000 then some (.tup [.int .i64 (bsE (BS xs) s:Int),.bool (AW (BS xs) s)])else none
 |_=>none
open Classical in
theorem F195_eq{nl:Bool}{t:Id}{l:List Tk}{s:Bs}(hl:l.length<=1000000):F195 [.slice nl t (Av l),.str s,.fn 196 []]=some (.tup [.int .i64 (bsE l s:Int),.bool (AW l s)]):=by
 have h:Av l=Av (BS (Av l))∧(Av l).length<=1000000:=by rw[Bb,AP];exact⟨rfl,hl⟩
 show(if _ then _ else _)=_;rw[if_pos h,Bb]
theorem ok195:(Ac F195).ok Qd 195:=by
 obtain⟨S,hS,hl⟩:=A5 (Ab ok196 Ad);have s196:=hl 196 _ rfl;clear hl;refine Ay (S:=S) hS fn195 (λds r h=>?_) (λds r h=>?_)
 ·unfold F195 at h;split at h
  ·simp
  ·cases h
 ·unfold F195 at h;split at h
  ·rename_i nl t xs s;split at h
   ·rename_i hc;obtain⟨hx,hl⟩:=hc;simp only[Qc]at h;subst h;generalize BS xs=l at hx;subst hx;rw[AP]at hl;have hle:bsE l s<=l.length:=bsR_le l s _ _ _ (by omega);unfold dc195;simp only[↓go1,go2,reduceIte,Qa,Qb,AP];refine loop195 (l:=l) (nl:=nl) (t:=t) (s:=s) (e:=bsE l s) s196 hl (λst h0 h1 h2 h8 h9=>?_) l.length 0 l.length _ _ (by omega) (by omega) rfl rfl rfl rfl rfl rfl rfl;unfold AW;generalize bsE l s=i at h9 hle;by_cases hi:i<l.length
    ·have hi':((i:Int)<l.length):=by omega
     have hi0:(0:Int)<=(i:Int):=by omega
     have hat:=D5 (l:=l) (j:=i) hi;generalize A4 l i=k at hat;obtain⟨n,p,knl,rs⟩:=k;replace hat:(Av l)[i]?=some (.agg [.str n,.str p,.slice knl [] (Al rs)]):=hat;have h196:F196 [.agg [.str n,.str p,.slice knl [] (Al rs)],.str s]=some (.int .i64 (FA n s)):=rfl;simp only[↓go1,gB2,go4,reduceIte,Qa,Qb,h0,h1,h2,h8,h9,hi',hi0,hat,Qf,Aa s196,h196,QD,Qp,Qu];simp[hi]
    ·have hi':¬((i:Int)<l.length):=by omega
     simp only[↓go1,gB3,reduceIte,Qa,Qb,h8,h9,hi'];simp[hi]
   ·cases h
  ·cases h
theorem tksD_un(l:List Tk):(Av l).map D.un=Av l:=by rw[Av,QO];exact QE λ_ _=>rfl
theorem tksD_head(l:List Tk):D.headSz (Av l) 3=3:=by cases l<;>rfl
def DX(xs:List D):Prop:=xs=Av (BS xs)∧xs.length<=1000000
theorem DJ{l:List Tk}(hl:l.length<=1000000):DX (Av l):=⟨by rw[Bb],by rw[AP];exact hl⟩
theorem Dv{xs:List D}(h:DX xs):∃l:List Tk,xs=Av l∧l.length<=1000000∧BS xs=l:=by
 refine⟨BS xs,h.1,?_,rfl⟩;have:=h.2;rw[h.1,AP]at this;exact this
open Classical in
def F93:List D->Option D
 |[.agg [.slice _ _ xs],.str s]=>if DX xs then some (.tup [.int .i64 (bsE (BS xs) s:Int),.bool (AW (BS xs) s)])else none
 |_=>none
open Classical in
theorem F93_eq{nl:Bool}{t:Id}{l:List Tk}{s:Bs}(hl:l.length<=1000000):F93 [.agg [.slice nl t (Av l)],.str s]=some (.tup [.int .i64 (bsE l s:Int),.bool (AW l s)]):=by
 show(if _ then _ else _)=_;rw[if_pos (DJ hl),Bb]
theorem ok93:(Ac F93).ok Qd 93:=by
 obtain⟨S,hS,hl⟩:=A5 (Ab ok195 Ad);have s195:=hl 195 _ rfl;clear hl;refine Ay (S:=S) hS fn93 (λds r h=>?_) (λds r h=>?_)
 ·unfold F93 at h;split at h
  ·simp
  ·cases h
 ·unfold F93 at h;split at h
  ·rename_i nl t xs s;split at h
   ·rename_i hc;obtain⟨l,rfl,hl,e⟩:=Dv hc;simp only[Qc]at h;subst h;rw[e];have h195:=F195_eq (nl:=nl) (t:=[]) (s:=s) hl;unfold dc93;simp only[↓go1,gB0,reduceIte,simprocAttr,Ag,Aa s195,h195]
   ·cases h
  ·cases h
open Classical in
def F36:List D->Option D
 |[.agg [.slice _ _ xs],.str s,.str p]=>if DX xs∧∀k∈BS xs,k.2.2.2.length<=1000000 then some (.int .u8 (if AW (BS xs) s=true then B2 (A4 (BS xs) (bsE (BS xs) s)).2.2.2 p else 0))else none
 |_=>none
theorem ok36:(Ac F36).ok Qd 36:=by
 obtain⟨S,hS,hl⟩:=A5 (Ab ok93 (Ab ok95 Ad));have s93:=hl 93 _ rfl;have s95:=hl 95 _ rfl;clear hl;refine Ay (S:=S) hS fn36 (λds r h=>?_) (λds r h=>?_)
 ·unfold F36 at h;split at h
  ·simp
  ·cases h
 ·unfold F36 at h;split at h
  ·rename_i nl t xs s p;split at h
   ·rename_i hc;obtain⟨hc,hk⟩:=hc;obtain⟨l,rfl,hl,e⟩:=Dv hc;rw[e]at hk h;simp only[Qc]at h;subst h;have h93:=F93_eq (nl:=nl) (t:=[]) (s:=s) hl;have hu:=tksD_un l;unfold dc36;cases hf:AW l s with
    |false=>simp only[↓go1,gB0,reduceIte,simprocAttr,Ag,Ao,Ap,Qe,Aa s93,h93,hf]
    |true=>
     have hi:bsE l s<l.length:=by
      unfold AW at hf;rw[QY,decide_eq_true_iff]at hf;exact hf.1
     rw[hf]at h93;generalize bsE l s=i at h93 hi;have hi0:(0:Int)<=(i:Int):=by omega
     have hat:=D5 (l:=l) (j:=i) hi;have hm:A4 l i∈l:=by simp[A4,Qg hi]
     have hlk:=hk _ hm;generalize A4 l i=k at hat hlk;obtain⟨n,q,knl,rs⟩:=k;replace hat:(Av l)[i]?=some (.agg [.str n,.str q,.slice knl [] (Al rs)]):=hat;have h95:=F95_eq (nl:=knl) (t:=[]) (s:=p) hlk;simp only[↓go1,gB0,reduceIte,simprocAttr,Ag,Ao,Ap,Qe,Qj,Qs,Qo,Aa s93,h93,Aa s95,h95,hi0,hat,Qf]
   ·cases h
  ·cases h
def FG(n p:Bs)(l:List Rl):Int:=if BC n=false then 2 else if Cq l≠0 then Cq l else if p=[]∧n=[114,111,111,116]then 0 else if BC p=true∧p≠n then 0 else 2
open Classical in
def F113:List D->Option D
 |[.agg [.str n,.str p,.slice _ _ xs]]=>if(xs=Al (A7 xs)∧xs.length<=1000000∧By (A7 xs))∧n.length<=1000000∧p.length<=1000000 then some (.int .i64 (FG n p (A7 xs)))else none
 |_=>none
open Classical in
theorem F113_eq{n p:Bs}{nl:Bool}{t:Id}{l:List Rl}(hl:l.length<=1000000)(hp:By l)(h1:n.length<=1000000)(h2:p.length<=1000000):F113 [.agg [.str n,.str p,.slice nl t (Al l)]]=some (.int .i64 (FG n p l)):=by
 have h:(Al l=Al (A7 (Al l))∧(Al l).length<=1000000∧By (A7 (Al l)))∧n.length<=1000000∧p.length<=1000000:=by rw[AN,Au];exact⟨⟨rfl,hl,hp⟩,h1,h2⟩
 show(if _ then _ else _)=_;rw[if_pos h,AN]
theorem ok113:(Ac F113).ok Qd 113:=by
 obtain⟨S,hS,hl⟩:=A5 (Ab ok213 (Ab ok214 Ad));have s213:=hl 213 _ rfl;have s214:=hl 214 _ rfl;clear hl;refine Ay (S:=S) hS fn113 (λds r h=>?_) (λds r h=>?_)
 ·unfold F113 at h;split at h
  ·simp
  ·cases h
 ·unfold F113 at h;split at h
  ·rename_i n p nl t xs;split at h
   ·rename_i hc;obtain⟨⟨hx,hl,hp⟩,hn,hpp⟩:=hc;simp only[Qc]at h;subst h;generalize A7 xs=l at hx hp;subst hx;rw[Au]at hl;have h213n:F213 [.str n]=some (.bool (BC n)):=if_pos hn;have h213p:F213 [.str p]=some (.bool (BC p)):=if_pos hpp;have h214:=Fpol_eq (nl:=nl) (t:=[]) hl hp;have hu:=EK l;have hcl:=CV l;unfold dc113 FG;generalize Cq l=e at *;generalize BC p=bp at *;generalize BC n=bn at *;cases bn with
    |false=>simp only[↓go1,gB2,go4,reduceIte,simprocAttr,Ag,Ql,Qq,Qh,and_self,Aa s213,h213n]
    |true=>
     simp only[↓go1,gB0,reduceIte,simprocAttr,Ag,Aa s213,h213n,Aa s214,h214]
     repeat' (first|(refine ifQ.intro (λh=>?_) (λh=>?_)<;>try (exfalso;omega))|(simp only[↓go1,gB0,reduceIte,simprocAttr,h,Ag,false_and,Aa s213,h213p]))
     all_goals (try simp_all)
   ·cases h
  ·cases h
theorem Bc{s:Nat->D}{m:Mem}{k:Option Nat}{a b:Nat}:Cm [.cell k a,.t b] s m=(ldD m k (s a)).map λd=> .tup [d,s b]:=by
 simp only[Cm,Fk,RV.of];cases ldD m k (s a)<;>rfl
theorem bne_tf:(true !=false)=true:=rfl
theorem bne_ff:(false !=false)=false:=rfl
def rlsOk(nl:Bool)(xs:List D):Prop:=xs=Al (A7 xs)∧xs.length<=1000000∧(nl=true->xs=[])
theorem rlsOk_mk{nl:Bool}{l:List Rl}(hl:l.length<=1000000)(hn:nl=true->l=[]):rlsOk nl (Al l):=⟨by rw[AN],by rw[Au];exact hl,λh=>by rw[hn h];rfl⟩
theorem Fo{nl:Bool}{xs:List D}(h:rlsOk nl xs):∃l:List Rl,xs=Al l∧l.length<=1000000∧(nl=true->l=[])∧A7 xs=l:=by
 refine⟨A7 xs,h.1,?_,λhn=>?_,rfl⟩
 ·have:=h.2.1;rw[h.1,Au]at this;exact this
 ·rw[h.2.2 hn];rfl
open Classical in
def F197:List D->Option D
 |[.slice nl _ xs]=>if rlsOk nl xs then some (.slice nl [] xs)else none
 |_=>none
open Classical in
theorem F197_eq{nl:Bool}{t:Id}{l:List Rl}(hl:l.length<=1000000)(hn:nl=true->l=[]):F197 [.slice nl t (Al l)]=some (.slice nl [] (Al l)):=by
 show(if _ then _ else _)=_;rw[if_pos (rlsOk_mk hl hn)]
theorem ok197:(Ac F197).ok Qd 197:=by
 refine Ay (S:=λ_=>none) AL fn197 (λds r h=>?_) (λds r h=>?_)
 ·unfold F197 at h;split at h
  ·simp
  ·cases h
 ·unfold F197 at h;split at h
  ·rename_i nl t xs;split at h
   ·rename_i hc;obtain⟨l,rfl,hl,hn,e⟩:=Fo hc;simp only[Qc]at h;subst h;have n1:(Al l).length*25<=140737488355328:=by rw[Au];omega
    unfold dc197;cases nl with
    |true=>
     have:=hn rfl;subst this;simp only[↓go1,gB3,reduceIte,simprocAttr,bne_tf,nilEq];rfl
    |false=>simp only[↓go1,gB2,go4,reduceIte,simprocAttr,Ag,Ql,Qq,Qh,and_self,false_and,bne_ff,n1,FS,ER,rlsD_head,false_or,QG,ne_eq,QK,QP,nilEq]
   ·cases h
  ·cases h
open Classical in
def F94:List D->Option D
 |[.agg [.str n,.str p,.slice nl _ xs]]=>if rlsOk nl xs then some (.agg [.str n,.str p,.slice nl [] xs])else none
 |_=>none
open Classical in
theorem F94_eq{n p:Bs}{nl:Bool}{t:Id}{l:List Rl}(hl:l.length<=1000000)(hn:nl=true->l=[]):F94 [.agg [.str n,.str p,.slice nl t (Al l)]]=some (.agg [.str n,.str p,.slice nl [] (Al l)]):=by
 show(if _ then _ else _)=_;rw[if_pos (rlsOk_mk hl hn)]
theorem ok94:(Ac F94).ok Qd 94:=by
 obtain⟨S,hS,hl⟩:=A5 (Ab ok197 Ad);have s197:=hl 197 _ rfl;clear hl;refine Ay (S:=S) hS fn94 (λds r h=>?_) (λds r h=>?_)
 ·unfold F94 at h;split at h
  ·simp
  ·cases h
 ·unfold F94 at h;split at h
  ·rename_i n p nl t xs;split at h
   ·rename_i hc;obtain⟨l,rfl,hl,hn,e⟩:=Fo hc;simp only[Qc]at h;subst h;have h197:=F197_eq (t:=[]) hl hn;unfold dc94;simp only[↓go1,gB0,reduceIte,simprocAttr,Ag,Ao,Ap,Qe,Qk,Qi,Qn,and_false,Qm,Bg,AY,Aa s197,h197]
   ·cases h
  ·cases h
def tkOk(k:Tk):Prop:=k.2.2.2.length<=1000000∧(k.2.2.1=true->k.2.2.2=[])
open Classical in
def F35:List D->Option D
 |[.agg [.slice _ _ xs],.str s]=>if DX xs∧∀k∈BS xs,tkOk k then some (.tup (if AW (BS xs) s=true then [tkD (A4 (BS xs) (bsE (BS xs) s)),.bool true]else [.agg [.str [],.str [],.slice true [] []],.bool false]))else none
 |_=>none
theorem ok35:(Ac F35).ok Qd 35:=by
 obtain⟨S,hS,hl⟩:=A5 (Ab ok93 (Ab ok94 Ad));have s93:=hl 93 _ rfl;have s94:=hl 94 _ rfl;clear hl;refine Ay (S:=S) hS fn35 (λds r h=>?_) (λds r h=>?_)
 ·unfold F35 at h;split at h
  ·simp
  ·cases h
 ·unfold F35 at h;split at h
  ·rename_i nl t xs s;split at h
   ·rename_i hc;obtain⟨hc,hk⟩:=hc;obtain⟨l,rfl,hl,e⟩:=Dv hc;rw[e]at hk h;simp only[Qc]at h;subst h;have h93:=F93_eq (nl:=nl) (t:=[]) (s:=s) hl;have hu:=tksD_un l;unfold dc35;cases hf:AW l s with
    |false=>simp only[↓go1,gB0,reduceIte,simprocAttr,Ag,Ao,Ap,Qe,Qk,Qi,Qn,and_false,Qm,AY,Bc,BH,Aa s93,h93,hf]
    |true=>
     have hi:bsE l s<l.length:=by
      unfold AW at hf;rw[QY,decide_eq_true_iff]at hf;exact hf.1
     rw[hf]at h93;generalize bsE l s=i at h93 hi;have hi0:(0:Int)<=(i:Int):=by omega
     have hat:=D5 (l:=l) (j:=i) hi;have hm:A4 l i∈l:=by simp[A4,Qg hi]
     have hlk:=hk _ hm;generalize A4 l i=k at hat hlk;obtain⟨n,q,knl,rs⟩:=k;replace hat:(Av l)[i]?=some (.agg [.str n,.str q,.slice knl [] (Al rs)]):=hat;have h94:=F94_eq (n:=n) (p:=q) (t:=[]) hlk.1 hlk.2;simp only[↓go1,gB0,reduceIte,simprocAttr,Ag,Ao,Ap,Qe,Qp,Qu,Qk,Qi,Qn,and_false,Qm,AY,Bc,Aa s93,h93,Aa s94,h94,hi0,hat,Qf,tkD]
   ·cases h
  ·cases h
end Go.Vd
namespace Go.Vd
open Go.Proofs
def dc106l0:DC:=(sr [bt 12 .lss 11 10] (.seq (cd 12 .skip (.exit 0)) (.seq (.block 1 (sr [ii 13 1 9 11,ll 14 13,mm 5 14] (sr [mm 15 3,mm 16 5,nn 17 false 16,bt 18 .add 15 17,mm 3 18] (sr [mm 19 3,bi 20 .lss 19 0] (cd 20 (.row [oo 21 (.mkif 9 (.c (.str [108,101,110,32,111,117,116,32,111,102,32,114,97,110,103,101]))),oz (.stop)]) .skip))))) (.row [bi 22 .add 11 1,mm 11 22]))))
def dc106l1:DC:=(sr [bt 28 .lss 27 26] (.seq (cd 28 .skip (.exit 2)) (.seq (.block 3 (sr [ii 29 1 25 27,ll 30 29,mm 8 30] (.row [mm 31 6,mm 32 8,oo 33 (.app 124 3 32 (.t 31) (.t 32)),mm 6 33]))) (.row [bi 34 .add 27 1,mm 27 34]))))
def dc106:DC:=(sr [oo 2 (.mv (.c (.slice true [] [])))] (sr [ci 3 0] (.seq (sr [mm 9 0,nn 10 false 9,ci 11 0] (.block 0 (.loop dc106l0))) (sr [mm 23 3,cc 24 207 [(.c (.slice true [] [])),(.t 23)],mm 6 24] (.seq (sr [mm 25 0,nn 26 false 25,ci 27 0] (.block 2 (.loop dc106l1))) (sr [mm 35 6,mm 2 35] .ret))))))
theorem fn106:Fn Qd 106 36 dc106 [.t 2]:=Am func106
end Go.Vd
namespace Go.Vd
open Go.RowKit
def D.plain:D->Bool
 | .bool _| .int _ _| .str _=>true
 |_=>false
theorem Rep.plain{w w':World}{g g':Gh}{d:D}{v:Value}(h:Rep w g d v)(hp:d.plain=true):Rep w' g' d v:=by
 cases h with
 |bool b=>exact .bool b
 |int k n=>exact .int k n
 |str s=>exact .str s
 |_=>cases hp
def ownS(F:List D->Option (List D)):Summ where
 rd:=λ_ _=>[]
 ex:=λds _ fr=>if(ds.map D.un).all D.calm=true then(F (ds.map D.un)).map λxs=>(.row fr xs.length,[(fr,0,flat xs)])else none
section
variable{P:Program}{B:Nat}{w0 w w':World}{m:Mem}{g:Gh}
theorem InvM.adopt(h:InvM P B w0 m w g)(hb:Below w.heap.size w w'){fr:Id}(hf:BL m g fr){b:Nat}(hbw:w.heap.size<=b){cur:Array Value}{T:TypeId}(hh:w'.heap[b]?=some (.cells cur T (0,0))){ds:List D}
  (hc:∀(j:Nat) d,ds[j]?=some d->d.plain=true∧∃v,cur[j]?=some v∧v.oneCell'=true∧Rep w' (g.obj fr b) d v):
  InvM P B w0 (m.put fr 0 ds) w' (g.obj fr b)∧Ext w g w' (g.obj fr b):=by
 have x:Ext w g w' (g.obj fr b):=by
  refine⟨λp hp=>?_,λb=>Qw _,λi' b h=>?_,rfl,λi x h=>h⟩
  ·by_cases hlt:p.block<w.heap.size
   ·exact hb.cell hlt
   ·rw[h.gz _ (by omega)]at hp;omega
  ·simp only[Gh.obj];split
   ·rename_i e;subst e;rw[hf.2.1]at h;cases h
   ·exact h
 refine⟨?_,x⟩;have ne:∀i' b',g.dl i'=some b'->i'≠fr:=λi' b' hb e=>by subst e;rw[hf.2.1]at hb;cases hb
 have hput:∀o d,m.put fr 0 ds fr o=some d->ds[o]?=some d:=by
  intro o d hm;by_cases ho:o<ds.length
  ·have hm':m.put fr 0 ds fr (0+o)=ds[o]?:=Mem.put_same ho;rw[QF]at hm';rw[←hm'];exact hm
  ·rw[Mem.put_out (by omega),hf.1 o]at hm;cases hm
 have hpl:∀{o d},m.put fr 0 ds fr o=some d->d.plain=true:=λhm=>(hc _ _ (hput _ _ hm)).1
 have oth:∀{i o d},m.put fr 0 ds i o=some d->d.plain=false->i≠fr∧m i o=some d:=by
  intro i o d hm hd;by_cases e:i=fr
  ·subst e;rw[hpl hm]at hd;cases hd
  ·rw[Mem.put_other e]at hm;exact⟨e,hm⟩
 refine⟨h.below.trans (hb.mono h.size),QX h.size hb.size,λb' hb'=>h.gz b' (QX hb.size hb'),h.old,λi' b' hi=>?_,λi1 i2 b' h1 h2=>?_,λi' o d hm hd=>?_,λi' e hi=>?_,λi1 i2 e e' b' y y' h1 h2 h3 h4=>?_,h.itr.to (λi' s p e=>(oth e rfl).2) λi' b' s p _ _ _ e1 e2 e3=>?_⟩
 rotate_right
 ·have hlt:b'<w.heap.size:=(QR.1 e1).1;refine⟨rfl,hb.block b' hlt,e2,λi1 h1=>?_⟩;simp only[Gh.obj]at h1;split at h1
  ·simp only[Qc]at h1;omega
  ·exact e3 i1 h1
 ·simp only[Gh.obj]at hi;split at hi
  ·rename_i e;subst e;simp only[Qc]at hi;subst hi;refine⟨QX h.size hbw,h.gz _ hbw,cur,T,hh,λo d hm=>?_⟩;exact(hc o d (hput o d hm)).2
  ·rename_i hne;obtain⟨p,q,vs',T',hh',r⟩:=h.obj i' b' hi;refine⟨p,q,vs',T',(hb.block b' (h.lt hi)).trans hh',λo d hm=>?_⟩;rw[Mem.put_other hne]at hm;obtain⟨v,r1,r2,r3⟩:=r o d hm;exact⟨v,r1,r2,r3.ext x⟩
 ·simp only[Gh.obj]at h1 h2;split at h1<;>split at h2
  ·simp_all
  ·simp only[Qc]at h1;subst h1;have:=h.lt h2;omega
  ·simp only[Qc]at h2;subst h2;have:=h.lt h1;omega
  ·exact h.inj _ _ _ h1 h2
 ·simp only[Gh.obj]at hd;split at hd
  ·cases hd
  ·rename_i hne;rw[Mem.put_other hne]at hm;exact h.kind _ _ _ hm hd
 ·obtain⟨hne,hi⟩:=oth hi rfl;obtain⟨b1,n,c,sz,cur',t1,t2,t3,t4,t5,t6,t7,t8,t9,t10⟩:=h.tok i' e hi;have hlt:b1<w.heap.size:=(QR.1 t5).1;refine⟨b1,n,c,sz,cur',t1,t2,t3,t4,(hb.block b1 hlt).trans t5,t6,t7,t8,t9,λi1 h1=>?_⟩;simp only[Gh.obj]at h1;split at h1
  ·simp only[Qc]at h1;omega
  ·exact t10 i1 h1
 ·exact h.tinj _ _ _ _ _ _ _ (oth h1 rfl).2 (oth h2 rfl).2 h3 h4
end
section
variable{P:Program}{S:Summs}{f:FuncId}{N:Nat}{dc:DC}{rs:List RV}
theorem own_ok(hS:Summs.ok P S)(hf:Fn P f N dc rs){F:List D->Option (List D)}(hN:∀ds r,F ds=some r->ds.length<=N)
  (hF:∀ds xs,F ds=some xs->(∀x∈flat xs,x.plain=true)∧dc.wp S [] (DE rs λd m'=>∃t e,d= .slice false t xs∧t≠[]∧m' t 0=some (.tok (e+1))) ⟨Bx ds,λ_ _=>none,0⟩):(ownS F).ok P f:=by
 obtain⟨fn,code,h1,h2,h3,h4,h5,h6⟩:=hf.is;refine⟨⟨fn,h1,by rw[h2];rfl,h3⟩,λds m m' fr _=>rfl,?_⟩;intro B w0 w m g fr ds vs r u hi hfresh hl hrep hex;simp only[ownS]at hex;split at hex
 ·rename_i hcalm;rw[QB]at hex;obtain⟨xs,hr,hex⟩:=hex;simp only[QQ]at hex;obtain⟨rfl,rfl⟩:=hex;obtain⟨hpl,hwp⟩:=hF _ _ hr;have hi0:=start_inv P w hi.gz;have hrep0:∀(j:Nat) d v,(ds.map D.un)[j]?=some d->vs[j]?=some v->Rep w (CE g.G) d v:=by
   intro j d v hd hv;have hc:=Qx.1 hcalm d (QI hd);rw[Zh,QB]at hd;obtain⟨d',hd',rfl⟩:=hd;exact(hrep j d' v hd' hv).un.calm_to hc (λ_ _=>rfl) (λ_=>Qw _)
  have hcalls:=FB (B:=w.heap.size) (w0:=w) (w:=w) (g:=CE g.G) (ns:=[]) (m:=λ_ _=>none) (ds:=ds.map D.un) (vs:=vs) hS hf (hN _ _ hr) hi0 (λk i _=>⟨λ_=>rfl,rfl,rfl⟩) (by simpa using hl) hrep0 hwp;refine hcalls.mono ?_;rintro e w' ⟨v,d,m',g',rfl,hinv,hext,_,hrd,t,e',rfl,ht,htok⟩;obtain⟨b,n,c,sz,cur,t1,t2,t3,t4,t5,t6,t7,t8,t9,t10⟩:=hinv.tok t e' htok;rcases hrd.slice_inv with ⟨h,_⟩|⟨_,ad,n',c',sz',vv,rfl,q1,q2,q3,q4,q5,q6,q7,q8,q9⟩
  ·cases h
  ·obtain⟨q8a,q8b,q8c⟩:=q8 ht;rw[t1]at q8c;simp only[Qc,QQ]at q8c;obtain⟨hb,hn,hc,hsz⟩:=q8c;have had:ad=⟨b,0,none⟩:=by
    cases ad;simp only at hb q8a q8b;subst hb q8a q8b;rfl
   subst had;subst hn hc hsz;have hfl:=BQ q3;obtain⟨i1,i2⟩:=hi.adopt hinv.below (hfresh fr (List.suffix_refl _)) t2 t5 (ds:=flat xs) (λj d hd=>by
    have hj:j<n*sz:=by rw[q1,←hfl];exact(Qy.1 hd).1
    have hp:=hpl d (QI hd);have hcell:=q4 j hj;rw[FM,QF]at hcell;refine⟨hp,vv j,?_,q5 j hj,(q6 j d hd).plain hp⟩;simpa[World.cell?,t5]using hcell)
   refine⟨_,g.obj fr b,rfl,i1,i2,?_,λi hf hne=>Ea hf hne _ _⟩;rw[←q1];exact .row fr n c b q2 (by simp[Gh.obj])
 ·cases hex
def SetC(m:Mem)(d r:D):Prop:=r=d.un∨∃i xs sz,d= .row i xs.length∧r= .slice false [] xs∧(∀x∈xs,x.calm=true∧x.cells.length=sz)∧∀(j:Nat) x,(flat xs)[j]?=some x->m i j=some x
def SetL(p:D->D->Prop):List D->List D->Prop
 |[],[]=>True
 |c::cs,x::xs=>p c x∧SetL p cs xs
 |_,_=>False
def SetD(m:Mem)(d r:D):Prop:=SetC m d r∨∃cs xs,d= .agg cs∧r= .agg xs∧SetL (SetC m) cs xs
def SetR(m:Mem)(d r:D):Prop:=(r.calm=true∧SetD m d r)∨∃cs xs,d= .tup cs∧r= .tup xs∧SetL (SetD m) cs xs
theorem SetL.get{p:D->D->Prop}:∀{cs xs:List D},SetL p cs xs->cs.length=xs.length∧∀(j:Nat) c x,cs[j]?=some c->xs[j]?=some x->p c x
 |[],[],_=>⟨rfl,by simp⟩
 |c::cs,x::xs,h=>by
  obtain⟨h1,h2⟩:=h;obtain⟨a,b⟩:=SetL.get h2;refine⟨by simp[a],λj c' x' hc hx=>?_⟩;cases j with
  |zero=>simp only[Qh,Qc]at hc hx;subst hc hx;exact h1
  |succ j=>simp only[QA]at hc hx;exact b j c' x' hc hx
 |[],_::_,h=>h.elim
 |_::_,[],h=>h.elim
theorem fun_set(hS:Summs.ok P S)(hf:Fn P f N dc rs){F:List D->Option D}(hN:∀ds r,F ds=some r->ds.length<=N)
  (hF:∀ds r,F ds=some r->r.calmR=true∧dc.wp S [] (DE rs λd m'=>SetR m' d r) ⟨Bx ds,λ_ _=>none,0⟩):(Ac F).ok P f:=by
 obtain⟨fn,code,h1,h2,h3,h4,h5,h6⟩:=hf.is;refine⟨⟨fn,h1,by rw[h2];rfl,h3⟩,λds m m' fr _=>rfl,?_⟩;intro B w0 w m g fr ds vs r u hi hfresh hl hrep hex;simp only[Ac]at hex;split at hex
 ·rename_i hcalm;rw[QB]at hex;obtain⟨r',hr,hex⟩:=hex;simp only[QQ]at hex;obtain⟨rfl,rfl⟩:=hex;obtain⟨hcr,hwp⟩:=hF _ _ hr;have hi0:=start_inv P w hi.gz;have hrep0:∀(j:Nat) d v,(ds.map D.un)[j]?=some d->vs[j]?=some v->Rep w (CE g.G) d v:=by
   intro j d v hd hv;have hc:=Qx.1 hcalm d (QI hd);rw[Zh,QB]at hd;obtain⟨d',hd',rfl⟩:=hd;exact(hrep j d' v hd' hv).un.calm_to hc (λ_ _=>rfl) (λ_=>Qw _)
  have hcalls:=FB (B:=w.heap.size) (w0:=w) (w:=w) (g:=CE g.G) (ns:=[]) (m:=λ_ _=>none) (ds:=ds.map D.un) (vs:=vs) hS hf (hN _ _ hr) hi0 (λk i _=>⟨λ_=>rfl,rfl,rfl⟩) (by simpa using hl) hrep0 hwp;refine hcalls.mono ?_;rintro e w' ⟨v,d,m',g',rfl,hinv,hext,_,hrd,hset⟩
  let G':Nat->Nat:=λb=>max (g'.G b) (match w'.heap[b]? with|some (.cells c _ _)=>c.size|_=>0)
  have hGle:∀b,g'.G b<=(g.glue w G').G b:=by
   intro b;simp only[Gh.glue];split
   ·rename_i hlt;rw[hinv.old b hlt,hext.G0];exact Qw _
   ·exact Nat.le_max_left ..
  have hGz:∀b,w'.heap.size<=b->G' b=0:=by
   intro b hb;simp only[G'];rw[Array.getElem?_eq_none hb,hinv.gz b hb];rfl
  have hC:∀{d r:D} {v:Value},Rep w' g' d v->SetC m' d r->r.calm=true->Rep w' (g.glue w G') r v:=by
   intro d r v h hs hc;rcases hs with rfl|⟨i,xs,sz,rfl,rfl,hx,hm⟩
   ·exact h.un.calm_to hc (λ_ _=>rfl) hGle
   ·obtain⟨b,cap,rfl,hcap,hb⟩:=h.row_inv;obtain⟨hBb,hGb,cur,T,hheap,hobj⟩:=hinv.obj i b hb;have hfl:=BQ λx h=>(hx x h).2
    have hvl:∀(j:Nat),j<(flat xs).length->∃v,cur[j]?=some v∧v.oneCell'=true∧∃x,(flat xs)[j]?=some x∧Rep w' g' x v:=by
     intro j hj;obtain⟨v',r1,r2,r3⟩:=hobj j _ (hm j _ (Qg hj));exact⟨v',r1,r2,_,Qg hj,r3⟩
    have hsz:(flat xs).length<=cur.size:=by
     rcases Nat.eq_zero_or_pos (flat xs).length with h|h
     ·omega
     ·obtain⟨v',r1,_⟩:=hvl ((flat xs).length-1) (by omega);have:=(QR.1 r1).1;omega
    have hcalm:∀x∈xs,x.calm=true:=λx h=>(hx x h).1
    refine Rep.ofRow (sz:=sz) (cur:=cur) (vs:=cur.toList.take (flat xs).length) hheap rfl hcap (λx h=>(hx x h).2) ⟨by simp;omega,λv hv=>?_,λj x v hx' hv=>?_⟩ (λj v hv=>?_) ?_ (λh=>absurd rfl h) hcalm
    ·obtain⟨j,hj,rfl⟩:=Q_ hv;have hj':j<(flat xs).length:=Nat.lt_of_lt_of_le hj (Zs _ _);obtain⟨v',r1,r2,_⟩:=hvl j hj';have:(cur.toList.take (flat xs).length)[j]?=some v':=by rw[Q0 hj'];simpa using r1
     rw[Qg hj]at this;rw[Q9 this];exact r2
    ·have hj':j<(flat xs).length:=(Qy.1 hx').1;obtain⟨v',r1,r2,x',hx2,r3⟩:=hvl j hj';rw[hx']at hx2;obtain rfl:=Q9 hx2;have:(cur.toList.take (flat xs).length)[j]?=some v':=by rw[Q0 hj'];simpa using r1
     rw[hv]at this;obtain rfl:=Q9 this;exact r3.calm_to (calm_flat hcalm x (QI hx')) (λ_ _=>rfl) hGle
    ·have hj:j<(flat xs).length:=Nat.lt_of_lt_of_le (Qy.1 hv).1 (Zs _ _);rw[Q0 hj]at hv;simpa using hv
    ·rw[←hfl];simp only[Gh.glue,G'];rw[if_neg (by omega),hheap];exact QX hsz (Nat.le_max_right ..)
  have hD:∀{d r:D} {v:Value},Rep w' g' d v->SetD m' d r->r.calm=true->Rep w' (g.glue w G') r v:=by
   intro d r v h hs hc;rcases hs with hs|⟨cs,xs,rfl,rfl,hL⟩
   ·exact hC h hs hc
   ·obtain⟨us,rfl,k1,k2,k3⟩:=A1.ofAgg h;obtain⟨l1,l2⟩:=hL.get;refine .agg _ us (by rw[k1,l1]) k2 (λj x v hx hv=>?_);have hj:j<cs.length:=by rw[l1];exact(Qy.1 hx).1
    exact hC (k3 j _ v (Qg hj) hv) (l2 j _ x (Qg hj) hx) (calm_agg hc x (QI hx))
  refine⟨v,g.glue w G',rfl,hi.glue hinv.below hGz,Ext.glue hi.gz hinv.below,?_,λi hf _=>hf⟩;rcases hset with ⟨hc,hs⟩|⟨cs,xs,rfl,rfl,hL⟩
  ·exact hD hrd hs hc
  ·obtain⟨us,rfl,k1,k2⟩:=hrd.tup_inv;obtain⟨l1,l2⟩:=hL.get;refine .tup _ us (by rw[k1,l1]) (λj x v hx hv=>?_);have hj:j<cs.length:=by rw[l1];exact(Qy.1 hx).1
   simp only[D.calmR,Qx]at hcr;exact hD (k2 j _ v (Qg hj) hv) (l2 j _ x (Qg hj) hx) (hcr x (QI hx))
 ·cases hex
end
def isSl:D->Bool
 | .slice _ _ _=>true
 |_=>false
def Es:List D->Nat
 |[]=>0
 | .slice _ _ xs::r=>xs.length+Es r
 |_::r=>Es r
theorem catD_len:∀{L ys:List D},Ec L=some ys->ys.length=Es L∧L.all isSl=true
 |[],ys,h=>by simp only[Ec,Qc]at h;subst h;exact⟨rfl,rfl⟩
 |x::r,ys,h=>by
  unfold Ec at h;split at h
  ·rename_i heq;cases heq
  ·rename_i nl t xs r' heq;cases heq;rw[QB]at h;obtain⟨zs,hz,rfl⟩:=h;obtain⟨h1,h2⟩:=catD_len hz;exact⟨by simp[Es,h1],by simp[isSl,h2]⟩
  ·cases h
def szB(sz:Nat)(d:D):Bool:=d.cells.length==sz
theorem headSz_szB{sz:Nat}{ys:List D}(h:ys.all (szB sz)=true):D.headSz ys sz=sz:=by
 cases ys with
 |nil=>rfl
 |cons y r=>
  have:=Qx.1 h y (List.mem_cons_self ..);simpa[D.headSz,szB]using this
theorem catB{n bytes:Nat}(hby:bytes<=1000000)(hn:n<=100000):n*(bytes+1)<=140737488355328:=QX (Nat.mul_le_mul hn (Nat.succ_le_succ hby)) (by omega)
theorem growU_at{m:Mem}{e:Nat}{fr t:Id}{nl:Bool}{xs:List D}:Upd.app m (Be e fr (.slice nl t xs)) fr 0=some (.tok (e+1)):=by
 cases nl<;>simp[Be,Upd.app,Bq]
def dcCat0(pt:Nat):DC:=(.seq (.row [⟨some 12,.bin .lss (.t 11) (.t 10),[],none⟩]) (.seq (.cond (.t 12) .skip (.exit 0)) (.seq (.block 1 (.seq (.row [⟨some 13,.iaddr 1 (.t 9) (.t 11),[],none⟩,⟨some 14,.load none (.t 13),[],none⟩,⟨some 5,.mv (.t 14),[],none⟩]) (.seq (.row [⟨some 15,.mv (.t 3),[],none⟩,⟨some 16,.mv (.t 5),[],none⟩,⟨some 17,.len false (.t 16),[],none⟩,⟨some 18,.bin .add (.t 15) (.t 17),[],none⟩,⟨some 3,.mv (.t 18),[],none⟩]) (.seq (.row [⟨some 19,.mv (.t 3),[],none⟩,⟨some 20,.bin .lss (.t 19) (.c (.int .i64 0)),[],none⟩]) (.cond (.t 20) (.row [⟨some 21,.mkif pt (.c (.str [108,101,110,32,111,117,116,32,111,102,32,114,97,110,103,101])),[],none⟩,⟨none,.stop,[],none⟩]) .skip))))) (.row [⟨some 22,.bin .add (.t 11) (.c (.int .i64 1)),[],none⟩,⟨some 11,.mv (.t 22),[],none⟩]))))
def dcCat1(e sz bytes:Nat):DC:=(.seq (.row [⟨some 28,.bin .lss (.t 27) (.t 26),[],none⟩]) (.seq (.cond (.t 28) .skip (.exit 2)) (.seq (.block 3 (.seq (.row [⟨some 29,.iaddr 1 (.t 25) (.t 27),[],none⟩,⟨some 30,.load none (.t 29),[],none⟩,⟨some 8,.mv (.t 30),[],none⟩]) (.row [⟨some 31,.mv (.t 6),[],none⟩,⟨some 32,.mv (.t 8),[],none⟩,⟨some 33,.app e sz bytes (.t 31) (.t 32),[],none⟩,⟨some 6,.mv (.t 33),[],none⟩]))) (.row [⟨some 34,.bin .add (.t 27) (.c (.int .i64 1)),[],none⟩,⟨some 27,.mv (.t 34),[],none⟩]))))
def Fz(pt e sz bytes gf:Nat):DC:=(.seq (.row [⟨some 2,.mv (.c (.slice true [] [])),[],none⟩]) (.seq (.row [⟨some 3,.mv (.c (.int .i64 0)),[],none⟩]) (.seq (.seq (.row [⟨some 9,.mv (.t 0),[],none⟩,⟨some 10,.len false (.t 9),[],none⟩,⟨some 11,.mv (.c (.int .i64 0)),[],none⟩]) (.block 0 (.loop (dcCat0 pt)))) (.seq (.row [⟨some 23,.mv (.t 3),[],none⟩,⟨some 24,.call (.c (.fn gf [])) [(.c (.slice true [] [])),(.t 23)],[],none⟩,⟨some 6,.mv (.t 24),[],none⟩]) (.seq (.seq (.row [⟨some 25,.mv (.t 0),[],none⟩,⟨some 26,.len false (.t 25),[],none⟩,⟨some 27,.mv (.c (.int .i64 0)),[],none⟩]) (.block 2 (.loop (dcCat1 e sz bytes)))) (.seq (.row [⟨some 35,.mv (.t 6),[],none⟩,⟨some 2,.mv (.t 35),[],none⟩]) .ret))))))
theorem loopCat0{pt:Nat}{S:Summs}{ns:Id}{L:List D}{nl:Bool}{t:Id}{Q:Ex->St->Prop}(hb:L.length<=1000)(hall:L.all isSl=true)
  (hexit:∀(st:St),st.s 0= .slice nl t L->st.s 3= .int .i64 (Es L:Nat)->Q (.exit 0) st):
  ∀(R:List D)(k a:Nat) st g,L.drop k=R->k<=L.length->a+Es R=Es L->Es L<=1000000->st.s 0= .slice nl t L->st.s 9= .slice nl t L->st.s 10= .int .i64 (L.length:Nat)->st.s 11= .int .i64 (k:Nat)->st.s 3= .int .i64 (a:Nat)->
   A6 S ns (dcCat0 pt) Q st g:=by
 intro R;induction R with
 |nil=>
  intro k a st g hd hk ha hm h0 h9 h10 h11 h3;refine Af (dcCat0.eq_1 pt) ?_;have hlen:L.length<=k:=by simpa using hd
  have:¬((k:Int)<L.length):=by omega
  simp only[↓go1,go2,go4,reduceIte,Qb,h10,h11,this];refine hexit _ ?_ ?_
  ·simp only[↓go1,reduceIte,Qa,h0]
  ·simp only[↓go1,reduceIte,Qa,h3];simp only[Es]at ha;rw[←ha];rfl
 |cons x R ih=>
  intro k a st g hd hk ha hm h0 h9 h10 h11 h3;refine Af (dcCat0.eq_1 pt) ?_;have hkl:k<L.length:=by
   rcases Zu k L.length with h|h
   ·exact h
   ·rw[Q5 h]at hd;cases hd
  have hxk:L[k]?=some x:=by
   have:=congrArg (·[0]?) hd;simpa using this
  have hx:isSl x=true:=Qx.1 hall x (QI hxk);have hdr:L.drop (k+1)=R:=by
   rw[←List.drop_drop,hd];rfl
  match x,hx with
  | .slice nl' t' xs,_=>
   have hlt:((k:Int)<L.length):=by omega
   have hk0:(0:Int)<=(k:Int):=by omega
   have hxk':L[(k:Int).toNat]?=some (.slice nl' t' xs):=by simpa using hxk
   simp only[Es]at ha;have w1:IntKind.i64.wrap ((a:Int)+(xs.length:Int))=((a+xs.length:Nat):Int):=by rw[IntWalk.i64_in _ ⟨by omega,by omega⟩];simp
   have w2:IntKind.i64.wrap ((k:Int)+1)=((k+1:Nat):Int):=by rw[IntWalk.i64_in _ ⟨by omega,by omega⟩];simp
   have hneg:¬(((a+xs.length:Nat):Int)<0):=by omega
   simp only[↓go1,gB3,reduceIte,Qa,Qb,h9,h10,h11,h3,hlt,hk0,hxk',w1,w2,hneg];exact ih (k+1) (a+xs.length) _ _ hdr (by omega) (by omega) hm h0 h9 h10 rfl rfl
theorem loopCat1{e sz bytes:Nat}(hby:bytes<=1000000){S:Summs}{ns:Id}{L:List D}{nl0:Bool}{t0:Id}{Q:Ex->St->Prop}(hb:L.length<=1000)
  (hexit:∀(st:St)(nl:Bool)(t:Id)(ys:List D),Ec L=some ys->st.s 6= .slice nl t ys->(nl=true->ys=[])->Grow st.m e (.slice nl t ys)->Q (.exit 2) st):
  ∀(R:List D)(k:Nat)(acc zs:List D)(nl:Bool)(t:Id) st g,L.drop k=R->k<=L.length->Ec R=some zs->Ec L=some (acc++zs)->(acc++zs).all (szB sz)=true->(acc++zs).length<=100000->
   (nl=true->acc=[])->Grow st.m e (.slice nl t acc)->
   st.s 6= .slice nl t acc->st.s 25= .slice nl0 t0 L->st.s 26= .int .i64 (L.length:Nat)->st.s 27= .int .i64 (k:Nat)->
   A6 S ns (dcCat1 e sz bytes) Q st g:=by
 intro R;induction R with
 |nil=>
  intro k acc zs nl t st g hd hk hz hL hone hlen hnil hgrow h6 h25 h26 h27;refine Af (dcCat1.eq_1 e sz bytes) ?_;have hlen':L.length<=k:=by simpa using hd
  have:¬((k:Int)<L.length):=by omega
  simp only[Ec,Qc]at hz;subst hz;simp only[↓go1,go2,go4,reduceIte,Qb,h26,h27,this];refine hexit _ nl t acc (by simpa using hL) ?_ hnil hgrow;simp only[↓go1,reduceIte,Qa,h6]
 |cons x R ih=>
  intro k acc zs nl t st g hd hk hz hL hone hlen hnil hgrow h6 h25 h26 h27;refine Af (dcCat1.eq_1 e sz bytes) ?_;have hkl:k<L.length:=by
   rcases Zu k L.length with h|h
   ·exact h
   ·rw[Q5 h]at hd;cases hd
  have hxk:L[k]?=some x:=by
   have:=congrArg (·[0]?) hd;simpa using this
  have hdr:L.drop (k+1)=R:=by
   rw[←List.drop_drop,hd];rfl
  unfold Ec at hz;split at hz
  ·rename_i heq;cases heq
  ·rename_i nl' t' xs R' heq;cases heq;rw[QB]at hz;obtain⟨zs',hz',rfl⟩:=hz;have hlt:((k:Int)<L.length):=by omega
   have hk0:(0:Int)<=(k:Int):=by omega
   have hxk':L[(k:Int).toNat]?=some (.slice nl' t' xs):=by simpa using hxk
   have w2:IntKind.i64.wrap ((k:Int)+1)=((k+1:Nat):Int):=by rw[IntWalk.i64_in _ ⟨by omega,by omega⟩];simp
   simp only[↓go1,gB3,reduceIte,Qa,Qb,h6,h25,h26,h27,hlt,hk0,hxk'];have hacc:(if nl=true then xs else acc++xs)=acc++xs:=BK hnil;refine ifQ.intro (λhc=>?_) (λhc=>?_)
   ·obtain⟨rfl,rfl⟩:=hc;obtain rfl:=hnil rfl;simp only[↓go1,go2,go3,reduceIte,Qa,Qb,h27,w2];exact ih (k+1) [] zs' true [] _ _ hdr (by omega) hz' (by simpa using hL) (by simpa using hone) (by simpa using hlen) (λ_=>rfl) (.inl rfl) rfl h25 h26 rfl
   ·have hxs:xs.all (szB sz)=true:=by
     rw[Za,Za]at hone;simp only[QY]at hone;exact hone.2.1
    refine An.intro ⟨catB hby (by simp only[Qr]at hlen;omega),headSz_szB hxs,hgrow⟩ ?_;rw[hacc];simp only[↓go1,go2,go3,reduceIte,Qa,Qb,h27,w2];refine ih (k+1) (acc++xs) zs' false _ _ _ hdr (by omega) hz' (by simpa using hL) (by simpa using hone) (by simpa using hlen) (λh=>by cases h) (.inr ⟨growU_at,by simp⟩) rfl h25 h26 rfl
  ·cases hz
def FcatG(sz:Nat):List D->Option (List D)
 |[.slice _ _ L]=>match Ec L with
  |some ys=>if L.length<=1000∧0<ys.length∧ys.length<=100000∧ys.all (szB sz)=true then some ys else none
  |none=>none
 |_=>none
theorem cat_wp{P:Program}{f gf pt e sz bytes:Nat}(hby:bytes<=1000000){S:Summs}(hS:S gf=some (Df e)){L ys:List D}{nl:Bool}{t:Id}(hys:Ec L=some ys)(c1:L.length<=1000)(c2:0<ys.length)(c3:ys.length<=100000)(c4:ys.all (szB sz)=true)
  {R:D->Mem->Prop} (hR:∀t m,Grow m e (.slice false t ys)->R (.slice false t ys) m):(Fz pt e sz bytes gf).wp S [] (DE [.t 2] R) ⟨Bx [.slice nl t L],λ_ _=>none,0⟩:=by
 obtain⟨hl,hall⟩:=catD_len hys;unfold Fz;simp only[↓go1,go2,reduceIte,Qa,Qb];refine loopCat0 c1 hall (λst h0 h3=>?_) L 0 0 _ _ rfl (by omega) (by simp) (by omega) rfl rfl rfl rfl rfl;simp only[↓go1,go2,go4,reduceIte,Qb,h3];rw[Ah hS];have hg:(Df e).ex ([D.slice true [] [],D.int IntKind.i64 (Es L:Nat)]++[]) st.m [st.c+1]=some (.slice false [0,st.c+1] [],[([0,st.c+1],0,[.tok (e+1)])]):=by
  simp only[Df,QT];rw[if_pos ⟨by omega,by omega⟩]
 refine Got.intro hg ?_;simp only[↓go1,go2,reduceIte,Qa,Qb,h0];refine loopCat1 hby c1 (λst' nl' t' zs hz h6 hn hgr=>?_) L 0 [] ys false _ _ _ rfl (by omega) hys (by simpa using hys) (by simpa using c4) (by simpa using c3) (λh=>by cases h) (.inr ⟨?_,by simp⟩) rfl h0 rfl rfl
 ·rw[hys]at hz;simp only[Qc]at hz;subst hz;have hnl:nl'=false:=by
   cases nl' with
   |false=>rfl
   |true=>have:=hn rfl;subst this;simp at c2
  subst hnl;simp only[↓go1,go2,reduceIte,Qa,Qb,h6];exact hR _ _ hgr
 ·simp[Bq]
section
variable{P:Program}{f gf pt e sz bytes:Nat}
theorem FcatG_some{ds ys:List D}(h:FcatG sz ds=some ys):∃nl t L,ds=[.slice nl t L]∧Ec L=some ys∧L.length<=1000∧0<ys.length∧ys.length<=100000∧ys.all (szB sz)=true:=by
 unfold FcatG at h;split at h
 ·rename_i nl t L;split at h
  ·rename_i ys' hys;split at h
   ·rename_i hc;simp only[Qc]at h;subst h;exact⟨nl,t,L,rfl,hys,hc⟩
   ·cases h
  ·cases h
 ·cases h
def gS(gf e:Nat):Summs:=λf=>if f=gf then some (Df e)else none
theorem gS_ok(hg:(Df e).ok P gf):Summs.ok P (gS gf e):=by
 intro f q h;unfold gS at h;split at h
 ·simp only[Qc]at h;subst h;rename_i e;subst e;exact hg
 ·cases h
theorem cat_own(hf:Fn P f 36 (Fz pt e sz bytes gf) [.t 2])(hby:bytes<=1000000)(hg:(Df e).ok P gf):(ownS λds=>(FcatG sz ds).bind λys=>if(flat ys).all D.plain=true then some ys else none).ok P f:=by
 refine own_ok (gS_ok hg) hf (λds r h=>?_) (λds r h=>?_)
 ·rw[QM]at h;obtain⟨ys,h,_⟩:=h;obtain⟨nl,t,L,rfl,_⟩:=FcatG_some h;simp
 ·rw[QM]at h;obtain⟨ys,h,h2⟩:=h;split at h2
  ·rename_i hp;simp only[Qc]at h2;subst h2;obtain⟨nl,t,L,rfl,c0,c1,c2,c3,c4⟩:=FcatG_some h;refine⟨λx hx=>Qx.1 hp x hx,cat_wp (P:=P) (f:=f) hby (by simp[gS]) c0 c1 c2 c3 c4 λt m hgr=>?_⟩;rcases hgr with h|⟨h1,h2⟩
   ·cases h
   ·exact⟨t,e,rfl,h2,h1⟩
  ·cases h2
theorem cat_fun(hf:Fn P f 36 (Fz pt e sz bytes gf) [.t 2])(hby:bytes<=1000000)(hg:(Df e).ok P gf){F:List D->Option D}
  (hF:∀ds r,F ds=some r->∃nl t L ys,ds=[.slice nl t L]∧Ec L=some ys∧L.length<=1000∧0<ys.length∧ys.length<=100000∧ys.all (szB sz)=true∧r= .slice false [] ys):(Ac F).ok P f:=by
 refine Ay (gS_ok hg) hf (λds r h=>?_) (λds r h=>?_)
 ·obtain⟨nl,t,L,ys,rfl,_⟩:=hF ds r h;simp
 ·obtain⟨nl,t,L,ys,rfl,c0,c1,c2,c3,c4,rfl⟩:=hF ds r h;exact cat_wp (P:=P) (f:=f) hby (by simp[gS]) c0 c1 c2 c3 c4 λt m hgr=>⟨rfl,rfl⟩
end
end Go.Vd
namespace Go.Vd
open Go.Proofs Go.RowKit
abbrev sz3:D->Bool:=szB 3
def Fcat3:List D->Option D
 |[.slice _ _ L]=>match Ec L with
  |some ys=>if L.length<=1000∧0<ys.length∧ys.length<=100000∧ys.all sz3=true then some (.slice false [] ys)else none
  |none=>none
 |_=>none
set_option maxRecDepth 20000 in
theorem walkGrow315(w:World)(k:Nat)(h0:0<k)(hk:k<=1000000):
  Calls Qd 315 #[.slice none 0 0,.int .i64 (k:Int)] w λe w'=>e= .returned (.slice (some ⟨w.heap.size,0,none⟩) 0 (grownCap w k 0 97))∧w'=w.drew.alloc (.cells (Builtin.zeroCells #[.string .empty,.string .empty,.slice none 0 0] k++Builtin.zeroCells #[.string .empty,.string .empty,.slice none 0 0] (grownCap w k 0 97-k)) 97):=by
 have happ:=Lib.run_append_nil_zeros (P:=Qd) w 53 3 53 97 t97 (.agg #[.string .empty,.string .empty,.slice none 0 0]) .i64 .i64 underlying53 underlying3 (by kernel_rfl) (by kernel_rfl) k h0 (by decide) (by omega) (by show k*56<=_;omega)
 go_enter func315,ntmps315
 go_wp2_with (first|(at_builtin;refine Lib.wpList_append_run _ rfl _ _ _ _ rfl _ _ rfl rfl _ _ happ ?_))
 all_goals go_ret
 all_goals exact⟨rfl,rfl⟩
theorem ok315:(Df 97).ok Qd 315:=by
 refine grow_ok (sz:=3) ⟨_,func315,by kernel_rfl,by kernel_rfl⟩ (by decide) ⟨t97,(.agg #[.string .empty,.string .empty,.slice none 0 0]),by kernel_rfl,by kernel_rfl,by kernel_rfl,by kernel_rfl⟩ (λw k h0 hk=>?_);refine(walkGrow315 w k h0 hk).mono ?_;rintro e w' ⟨rfl,rfl⟩;refine⟨_,_,grownCap_le_maxLen w k 0 97 (by unfold maxLen;omega),?_,rfl,rfl⟩;have hge:=grownCap_ge w k 0 97;simp only[Array.size_append,size_zeroCells];simp;omega
theorem fcat3_get{ds:List D}{r:D}(h:Fcat3 ds=some r):∃nl t L ys,ds=[.slice nl t L]∧Ec L=some ys∧L.length<=1000∧0<ys.length∧ys.length<=100000∧ys.all (szB 3)=true∧r= .slice false [] ys:=by
 unfold Fcat3 at h;split at h
 ·rename_i nl t L;split at h
  ·rename_i ys hys;split at h
   ·rename_i hc;simp only[Qc]at h;subst h;exact⟨nl,t,L,ys,rfl,hys,hc.1,hc.2.1,hc.2.2.1,hc.2.2.2,rfl⟩
   ·cases h
  ·cases h
 ·cases h
theorem ok216(h315:(Df 97).ok Qd 315):(Ac Fcat3).ok Qd 216:=cat_fun (pt:=9) (bytes:=56) fn216 (by omega) h315 λ_ _ h=>fcat3_get h
set_option maxRecDepth 20000 in
theorem walkGrow207(w:World)(k:Nat)(h0:0<k)(hk:k<=1000000):
  Calls Qd 207 #[.slice none 0 0,.int .i64 (k:Int)] w λe w'=>e= .returned (.slice (some ⟨w.heap.size,0,none⟩) 0 (grownCap w k 0 124))∧w'=w.drew.alloc (.cells (Builtin.zeroCells #[.string .empty,.int .i64 0,.bool false] k++Builtin.zeroCells #[.string .empty,.int .i64 0,.bool false] (grownCap w k 0 124-k)) 124):=by
 have happ:=Lib.run_append_nil_zeros (P:=Qd) w 50 3 50 124 t124 (.agg #[.string .empty,.int .i64 0,.bool false]) .i64 .i64 underlying50 underlying3 (by kernel_rfl) (by kernel_rfl) k h0 (by decide) (by omega) (by show k*32<=_;omega)
 go_enter func207,ntmps207
 go_wp2_with (first|(at_builtin;refine Lib.wpList_append_run _ rfl _ _ _ _ rfl _ _ rfl rfl _ _ happ ?_))
 all_goals go_ret
 all_goals exact⟨rfl,rfl⟩
theorem ok207:(Df 124).ok Qd 207:=by
 refine grow_ok (sz:=3) ⟨_,func207,by kernel_rfl,by kernel_rfl⟩ (by decide) ⟨t124,(.agg #[.string .empty,.int .i64 0,.bool false]),by kernel_rfl,by kernel_rfl,by kernel_rfl,by kernel_rfl⟩ (λw k h0 hk=>?_);refine(walkGrow207 w k h0 hk).mono ?_;rintro e w' ⟨rfl,rfl⟩;refine⟨_,_,grownCap_le_maxLen w k 0 124 (by unfold maxLen;omega),?_,rfl,rfl⟩;have hge:=grownCap_ge w k 0 124;simp only[Array.size_append,size_zeroCells];simp;omega
theorem ok106(h207:(Df 124).ok Qd 207):(Ac Fcat3).ok Qd 106:=cat_fun (pt:=9) (bytes:=32) fn106 (by omega) h207 λ_ _ h=>fcat3_get h
def firstTk:Tk:=([114,111,111,116],[],false,[([],63)])
def F112:List D->Option D
 |[]=>some (tkD firstTk)
 |_=>none
theorem ok112:(Ac F112).ok Qd 112:=by
 refine Ay (S:=λ_=>none) AL fn112 (λds r h=>?_) (λds r h=>?_)
 ·unfold F112 at h;split at h
  ·simp
  ·cases h
 ·unfold F112 at h;split at h
  ·simp only[Qc]at h;subst h;unfold dc112;simp only[↓go1,gB0,reduceIte,simprocAttr,Ag,Ao,Ap,Qe,Qp,Qu,Qk,Qj,Qs,Qi,Qn,and_false,Qm,Bg,AY,BH,CW,QG,QK,QP,tkD,firstTk,Al,rlD,Q1,QK]
  ·cases h
def F48:List D->Option D
 |[]=>some (.agg [.slice false [] (Av [firstTk])])
 |_=>none
theorem ok48:(Ac F48).ok Qd 48:=by
 obtain⟨S,hS,hl⟩:=A5 (Ab ok112 Ad);have s112:=hl 112 _ rfl;clear hl;refine Ay (S:=S) hS fn48 (λds r h=>?_) (λds r h=>?_)
 ·unfold F48 at h;split at h
  ·simp
  ·cases h
 ·unfold F48 at h;split at h
  ·simp only[Qc]at h;subst h;have h112:F112 []=some (.agg [.str [114,111,111,116],.str [],.slice false [] [.agg [.str [],.int .u8 63]]]):=rfl;unfold dc48;simp only[↓go1,gB2,go4,reduceIte,simprocAttr,Ag,Ao,Ap,Ql,Qq,Qh,and_self,Qe,Qu,Qk,Qj,Qs,Qi,Qn,Qm,Bg,AY,BH,CW,QG,QK,QP,Aa s112,h112,Av,tkD,firstTk,Al,rlD,Q1,QK]
  ·cases h
def Eg(l:List Tk)(k:Tk):List Tk:=l.take (bsE l k.1)++k::l.drop (bsE l k.1)
open Classical in
def F115:List D->Option D
 |[.agg [.slice _ _ xs],.agg [.str n,.str p,.slice nl _ ys]]=>if DX xs∧xs.length<=90000∧rlsOk nl ys then some (.agg [.slice false [] (Av (Eg (BS xs) (n,p,nl,A7 ys)))])else none
 |_=>none
open Classical in
theorem F115_eq{nl0 nl:Bool}{t0 t:Id}{l:List Tk}{n p:Bs}{rs:List Rl}(hl:l.length<=90000)(hr:rs.length<=1000000)(hn:nl=true->rs=[]):
  F115 [.agg [.slice nl0 t0 (Av l)],.agg [.str n,.str p,.slice nl t (Al rs)]]=some (.agg [.slice false [] (Av (Eg l (n,p,nl,rs)))]):=by
 have h:DX (Av l)∧(Av l).length<=90000∧rlsOk nl (Al rs):=⟨DJ (by omega),by rw[AP];exact hl,rlsOk_mk hr hn⟩;show(if _ then _ else _)=_;rw[if_pos h,Bb,AN]
theorem ok115:(Ac F115).ok Qd 115:=by
 obtain⟨S,hS,hl⟩:=A5 (Ab ok93 (Ab ok94 (Ab (ok216 ok315) Ad)));have s93:=hl 93 _ rfl;have s94:=hl 94 _ rfl;have s216:=hl 216 _ rfl;clear hl;refine Ay (S:=S) hS fn115 (λds r h=>?_) (λds r h=>?_)
 ·unfold F115 at h;split at h
  ·simp
  ·cases h
 ·unfold F115 at h;split at h
  ·rename_i nl0 t0 xs n p nl t ys;split at h
   ·rename_i hc;obtain⟨hc,h9,hr⟩:=hc;obtain⟨l,rfl,hl,e⟩:=Dv hc;obtain⟨rs,rfl,hrl,hrn,e2⟩:=Fo hr;rw[e,e2]at h;rw[AP]at h9;simp only[Qc]at h;subst h;have h93:=F93_eq (nl:=nl0) (t:=[]) (s:=n) hl;have h94:=F94_eq (n:=n) (p:=p) (t:=[]) hrl hrn;have hle:bsE l n<=l.length:=bsR_le l n _ _ _ (by omega);unfold Eg;generalize bsE l n=i at h93 hle;generalize AW l n=fd at h93;have hi0:(0:Int)<=(i:Int):=by omega
    have hil:(i:Int)<=(l.length:Int):=by omega
    have hll:l.length<=l.length:=Qw _;have htk:(Av l).take i=Av (l.take i):=(List.map_take ..).symm;have hdr:((Av l).drop i).take (l.length-i)=Av (l.drop i):=by
     rw[QW (by rw[QV,AP];omega)];exact(List.map_drop ..).symm
    have hcat:Fcat3 [.slice false [] [.slice nl0 [] (Av (l.take i)),.slice false [] [.agg [.str n,.str p,.slice nl [] (Al rs)]],.slice nl0 [] (Av (l.drop i))]]=some (.slice false [] (Av (l.take i++(n,p,nl,rs)::l.drop i))):=by
     have e1:Ec [.slice nl0 [] (Av (l.take i)),.slice false [] [.agg [.str n,.str p,.slice nl [] (Al rs)]],.slice nl0 [] (Av (l.drop i))]=some (Av (l.take i++(n,p,nl,rs)::l.drop i)):=by
      simp[Ec,Av,tkD]
     simp only[Fcat3,e1];rw[if_pos];refine⟨by simp,?_,?_,?_⟩
     ·rw[AP];simp only[Qr,Qt];omega
     ·rw[AP];simp only[Qr,Qt,QJ,QV];omega
     ·rw[Qx];intro x hx;obtain⟨y,_,rfl⟩:=QC.1 hx;rfl
    unfold dc115;simp only[↓go1,gB0,reduceIte,simprocAttr,Ag,Ao,Ap,Qe,Qu,Qk,Qj,Qs,Qi,Qn,and_false,Qm,BH,CW,tksD_head,QG,QK,QP,Aa s93,h93,Aa s94,h94,Aa s216,hcat,AP,hi0,hil,htk,hdr,Qf,Qw];refine An.intro (Aj rfl) ?_;simp only[↓go1,gB2,go4,reduceIte,simprocAttr,Ag,Ao,Ap,Qq,Qh,and_self,Qe,Qj,Qi,Qm,Bg,AY,QK,QP,htk,hdr,Qw]
   ·cases h
  ·cases h
theorem loop114i{S:Summs}{ns:Id}{a b l:List Rl}{nl na nb:Bool}{t ta tb:Id}{Q:Ex->St->Prop}{e:Bool}{d19:D}{i:Int}(s95:S 95=some (Ac F95))(s215:S 215=some (Ac F215))
  (la:a.length<=1000000) (lb:b.length<=1000000) (pb:By b) (ca:DB a) (cb:DB b) (hb:l.length<=1000000) (hpl:By l)
  (hret:∀st,e=false->st.s 4= .bool false->Q .ret st) (hexit:∀st,e=true->st.s 0= .slice na ta (Al a)->st.s 1= .slice nb tb (Al b)->st.s 19=d19->st.s 20= .int .i64 i->Q (.exit 2) st):
  ∀(f j:Nat) st g,l.length=j+f->Di a b l f j=e->st.s 0= .slice na ta (Al a)->st.s 1= .slice nb tb (Al b)->st.s 19=d19->st.s 20= .int .i64 i->st.s 23= .slice nl t (Al l)->st.s 24= .int .i64 (l.length:Int)->st.s 25= .int .i64 (j:Int)->A6 S ns dc114l0 Q st g:=by
 intro f;induction f with
 |zero=>
  intro j st g hf he h0 h1 h19 h20 h23 h24 h25;refine Af dc114l0.eq_1 ?_;have:¬((j:Int)<l.length):=by omega
  simp only[↓go1,go2,go4,reduceIte,Qb,h24,h25,this];exact hexit _ he.symm h0 h1 h19 h20
 |succ f ih=>
  intro j st g hf he h0 h1 h19 h20 h23 h24 h25;refine Af dc114l0.eq_1 ?_;unfold Di at he;have hj:j<l.length:=by omega
  have hlt:((j:Int)<l.length):=by omega
  have hj0:(0:Int)<=(j:Int):=by omega
  have hw:IntKind.i64.wrap ((j:Int)+1)=((j+1:Nat):Int):=w64 (by omega) (by omega);have hat:(Al l)[j]?=some (.agg [.str (Bl l j).1,.int .u8 (Bl l j).2]):=Dc hj;have hq:=prefB_at hpl hj;unfold oneC at he;generalize Bl l j=r at hat hq he;obtain⟨q,k⟩:=r;simp only at hat hq he;have e95:=F95_eq (nl:=na) (t:=[]) (s:=q) la;have ba:=capsP_b (s:=q) ca;have e215:=F215_eq (nl:=nb) (t:=[]) (s:=q) lb cb pb hq ba.1 ba.2;unfold allowsP at e215;generalize hasB (B2 b q).toNat (B2 a q).toNat=hh at he e215;obtain⟨st_s,st_m,st_c⟩:=st;simp only at h0 h1 h19 h20 h23 h24 h25;cases hh with
  |true=>
   rw[if_pos rfl]at he;simp only[↓go1,gB0,reduceIte,Qa,Qb,h0,h1,h23,h24,h25,hlt,hj0,Qf,hat,Aa s95,e95,Aa s215,e215,Ag,Ao,Ap,QL,QD,Qe,Qp,Qu,Qk];refine An.intro (Aj rfl) ?_;simp only[↓go1,go2,go3,reduceIte,Qa,Qb,h25,hw];exact ih (j+1) _ _ (by omega) he h0 h1 h19 h20 h23 h24 rfl
  |false=>
   rw[if_neg (by simp)]at he;simp only[↓go1,gB0,reduceIte,Qa,Qb,h0,h1,h23,h24,h25,hlt,hj0,Qf,hat,Aa s95,e95,Aa s215,e215,Ag,Ao,Ap,QL,QD,Qe,Qp,Qu,Qk];refine An.intro (Aj rfl) ?_;simp only[↓go1,go2,go3,reduceIte,Qa,Qb];exact hret _ he.symm rfl
theorem ok114:(Ac F118).ok Qd 114:=by
 obtain⟨S,hS,hl⟩:=A5 (Ab ok214 (Ab ok95 (Ab ok215 Ad)));have s214:=hl 214 _ rfl;have s95:=hl 95 _ rfl;have s215:=hl 215 _ rfl;clear hl;refine Ay (S:=S) hS fn114 (λds r h=>?_) (λds r h=>?_)
 ·obtain⟨na,ta,a,nb,tb,b,rfl,_⟩:=F118_inv h;simp
 ·obtain⟨na,ta,a,nb,tb,b,rfl,la,lb,pa,pb,ca,cb,rfl⟩:=F118_inv h;have ea:=Fpol_eq (nl:=na) (t:=[]) la pa;have eb:=Fpol_eq (nl:=nb) (t:=[]) lb pb;have halla:=CV a;have hallb:=CV b;have huna:=EK a;have hunb:=EK b;unfold dc114 Dj;generalize Cq a=xa at *;generalize Cq b=xb at *;by_cases hxa:xa=0
  ·by_cases hxb:xb=0
   ·subst hxa hxb;have z2:((2:Nat):Int)=2:=rfl;have w1:IntKind.i64.wrap ((0:Int)+1)=1:=w64 (by omega) (by omega);have w2:IntKind.i64.wrap ((1:Int)+1)=2:=w64 (by omega) (by omega);rw[Za];have ha:a.all (oneC a b)=Di a b a a.length 0:=by rw[EW _ _ _ _ _ (by omega)];rfl
    have hb:b.all (oneC a b)=Di a b b b.length 0:=by rw[EW _ _ _ _ _ (by omega)];rfl
    rw[ha,hb];simp only[↓go1,gB2,go4,reduceIte,Qa,Qb,Aa s214,ea,eb,BH,CW,QD,and_self,Qp,Qu,Qj,Qs];refine Af dc114l1.eq_1 ?_;simp only[↓go1,go2,go4,reduceIte,Qa,Qb,Au,z2,Int.reduceLT,Int.toNat_zero,Zr,Qh,and_self];refine loop114i (a:=a) (b:=b) (l:=a) (e:=Di a b a a.length 0) s95 s215 la lb pb ca cb la pa (λst h1 h2=>?_) (λst he h0 h1 h19 h20=>?_) a.length 0 _ _ (by omega) rfl rfl rfl rfl rfl rfl rfl rfl
    ·simp only[↓go1,gB3,h1,h2,Zd,Bool.and_false]
    ·simp only[↓go1,gB3,reduceIte,Qa,Qb,h20,he,w1];refine Af dc114l1.eq_1 ?_;simp only[↓go1,go2,go4,reduceIte,Qa,Qb,h19,h20,Au,z2,Int.reduceLT,Int.toNat_one,Int.reduceLE,Qh,QA,and_self];refine loop114i (a:=a) (b:=b) (l:=b) (e:=Di a b b b.length 0) s95 s215 la lb pb ca cb lb pb (λst h1 h2=>?_) (λst he2 h0 h1 h19 h20=>?_) b.length 0 _ _ (by omega) rfl h0 h1 h19 rfl rfl rfl rfl
     ·simp only[↓go1,gB3,h1,h2,he,Bool.and_false]
     ·simp only[↓go1,gB3,reduceIte,Qa,Qb,h20,he,he2,w2];refine Af dc114l1.eq_1 ?_;simp only[↓go1,gB3,reduceIte,Qa,Qb,h20,he,he2,Zt]
   ·simp only[↓go1,gB3,reduceIte,Qa,Qb,Aa s214,ea,eb,hxb,hxa]
    try simp
  ·simp only[↓go1,gB3,reduceIte,Qa,Qb,Aa s214,ea,hxa]
   try simp
def Ds(l:List Tk)(k:Tk):Option (List Tk)×Int:=
 if FG k.1 k.2.1 k.2.2.2≠0 then(none,FG k.1 k.2.1 k.2.2.2)else if k.2.1=[]then(none,2)else if AW l k.1=true then(none,20)else if AW l k.2.1=false then(none,6)
 else if Dj k.2.2.2 (A4 l (bsE l k.2.1)).2.2.2=false then(none,13)else(some (Eg l k),0)
def setD(nl:Bool)(l:List Tk)(o:Option (List Tk)):D:=match o with
 |none=> .agg [.slice nl [] (Av l)]
 |some l'=> .agg [.slice false [] (Av l')]
def El(l:List Rl):Prop:=l.length<=1000000∧By l∧DB l
open Classical in
def F50:List D->Option D
 |[.agg [.slice nl0 _ xs],.agg [.str n,.str p,.slice nl _ ys]]=>if(DX xs∧xs.length<=90000∧∀k∈BS xs,El k.2.2.2)∧rlsOk nl ys∧El (A7 ys)∧n.length<=1000000∧p.length<=1000000
   then some (.tup [setD nl0 (BS xs) (Ds (BS xs) (n,p,nl,A7 ys)).1,.int .i64 (Ds (BS xs) (n,p,nl,A7 ys)).2])else none
 |_=>none
theorem ok50:(Ac F50).ok Qd 50:=by
 obtain⟨S,hS,hl⟩:=A5 (Ab ok113 (Ab ok93 (Ab ok114 (Ab ok115 Ad))));have s113:=hl 113 _ rfl;have s93:=hl 93 _ rfl;have s114:=hl 114 _ rfl;have s115:=hl 115 _ rfl;clear hl;refine Ay (S:=S) hS fn50 (λds r h=>?_) (λds r h=>?_)
 ·unfold F50 at h;split at h
  ·simp
  ·cases h
 ·unfold F50 at h;split at h
  ·rename_i nl0 t0 xs n p nl t ys;split at h
   ·rename_i hc;obtain⟨⟨hc,h9,hk⟩,hr,hpo,hn,hp⟩:=hc;obtain⟨l,rfl,hl,e⟩:=Dv hc;obtain⟨rs,rfl,hrl,hrn,e2⟩:=Fo hr;rw[e,e2]at h;rw[e]at hk;rw[e2]at hpo;rw[AP]at h9;simp only[Qc]at h;subst h;have h113:=F113_eq (n:=n) (p:=p) (nl:=nl) (t:=[]) hrl hpo.2.1 hn hp;have h93n:=F93_eq (nl:=nl0) (t:=[]) (s:=n) hl;have h93p:=F93_eq (nl:=nl0) (t:=[]) (s:=p) hl;have h115:=F115_eq (nl0:=nl0) (t0:=[]) (n:=n) (p:=p) (t:=[]) h9 hrl hrn;unfold dc50 Ds;simp only;generalize FG n p rs=e at *;by_cases he:e=0
    ·subst he;by_cases hp0:p=[]
     ·subst hp0;simp only[↓go1,gB0,reduceIte,simprocAttr,Ag,Ao,Ap,Qe,Qk,Qi,Qn,and_false,Qm,AY,Bc,Aa s113,h113,ne_eq];simp[setD];rfl
     ·cases h1:AW l n with
      |true=>
       rw[h1]at h93n;simp only[↓go1,gB0,reduceIte,simprocAttr,Ag,Ao,Ap,Qe,Qk,Qi,Qn,and_false,Qm,AY,Bc,Aa s113,h113,Aa s93,h93n,ne_eq,hp0];simp[setD];rfl
      |false=>
       rw[h1]at h93n;cases h2:AW l p with
       |false=>
        rw[h2]at h93p;simp only[↓go1,gB0,reduceIte,simprocAttr,Ag,Ao,Ap,Qe,Qk,Qi,Qn,and_false,Qm,AY,Bc,Aa s113,h113,Aa s93,h93n,h93p,ne_eq,hp0];simp[setD];rfl
       |true=>
        have hi:bsE l p<l.length:=by
         unfold AW at h2;rw[QY,decide_eq_true_iff]at h2;exact h2.1
        rw[h2]at h93p;generalize bsE l p=i at h93p hi;have hi0:(0:Int)<=(i:Int):=by omega
        have hat:=D5 (l:=l) (j:=i) hi;have hm:A4 l i∈l:=by simp[A4,Qg hi]
        have hlk:=hk _ hm;generalize A4 l i=k at hat hlk;obtain⟨n2,p2,nl2,rs2⟩:=k;replace hat:(Av l)[i]?=some (.agg [.str n2,.str p2,.slice nl2 [] (Al rs2)]):=hat;have h114:=F118_eq (na:=nl) (nb:=nl2) (ta:=[]) (tb:=[]) hrl hlk.1 hpo.2.1 hlk.2.1 hpo.2.2 hlk.2.2;simp only at h114;cases h3:Dj rs rs2 with
        |false=>
         rw[h3]at h114;simp only[↓go1,gB0,reduceIte,simprocAttr,Ag,Ao,Ap,Qe,Qj,Qs,Qo,Qi,Qn,and_false,Qm,Aa s113,h113,Aa s93,h93n,h93p,ne_eq,hp0,hi0,hat,Qf,Aa s114,h114];refine An.intro (Aj rfl) ?_;simp only[↓go1,gB2,go4,reduceIte,simprocAttr,Ag,Ao,Ap,Ql,Qq,Qh,and_self,Qe,Qk,Qi,Qn,Qm,AY,Bc,hp0];simp[setD];rfl
        |true=>
         rw[h3]at h114;simp only[↓go1,gB0,reduceIte,simprocAttr,Ag,Ao,Ap,Qe,Qj,Qs,Qo,Qi,Qn,and_false,Qm,Aa s113,h113,Aa s93,h93n,h93p,ne_eq,hp0,hi0,hat,Qf,Aa s114,h114];refine An.intro (Aj rfl) ?_;simp only[↓go1,gB0,reduceIte,simprocAttr,Ag,Ao,Ap,Qe,Qk,Qi,Qn,and_false,Qm,AY,Bc,Aa s115,h115,hp0];simp[setD];rfl
    ·simp only[↓go1,gB0,reduceIte,simprocAttr,Ag,Ao,Ap,Qe,Qk,Qi,Qn,and_false,Qm,AY,Bc,Aa s113,h113,ne_eq,he];simp[setD];rfl
   ·cases h
  ·cases h
theorem loop129{S:Summs}{l:List Tk}{nl0:Bool}{t0:Id}{Q:Ex->St->Prop}(hb:l.length<=1000000)
  (hexit:∀st nl t,nl=decide (l.length=0)->st.s 3= .slice nl t (l.map λk=> .str k.1)->Q (.exit 0) st):
  ∀(f j:Nat) nl t st g,l.length=j+f->nl=decide (j=0)->Gw st.m st.c 9 nl t->st.s 3= .slice nl t ((l.take j).map λk=> .str k.1)->st.s 7= .slice nl0 t0 (Av l)->st.s 8= .int .i64 (l.length:Int)->st.s 9= .int .i64 (j:Int)->A6 S [] dc129l0 Q st g:=by
 intro f;induction f with
 |zero=>
  intro j nl t st g hf hn hG h3 h7 h8 h9;refine Af dc129l0.eq_1 ?_;have:¬((j:Int)<l.length):=by omega
  simp only[↓go1,go2,go4,reduceIte,Qb,h8,h9,this];refine hexit _ nl t (by rw[hn,show j=l.length by omega]) ?_;rw[show j=l.length by omega,List.take_length]at h3;exact h3
 |succ f ih=>
  intro j nl t st g hf hn hG h3 h7 h8 h9;refine Af dc129l0.eq_1 ?_;have hj:j<l.length:=by omega
  have hlt:((j:Int)<l.length):=by omega
  have hj0:(0:Int)<=(j:Int):=by omega
  have hw:IntKind.i64.wrap ((j:Int)+1)=((j+1:Nat):Int):=w64 (by omega) (by omega);have hat:=D5 (l:=l) (j:=j) hj;have htk:(l.take (j+1)).map (λk:Tk=>D.str k.1)=(l.take j).map (λk:Tk=>D.str k.1)++[.str (A4 l j).1]:=by
   rw[Q6 hj,Zo];simp[A4,Qg hj]
  have hal:((l.take j).map (λk:Tk=>D.str k.1)).length=j:=by simp;omega
  have hnil:nl=true->(l.take j).map (λk:Tk=>D.str k.1)=[]:=by
   rw[hn];intro h;have:j=0:=by simpa using h
   subst this;rfl
  generalize (l.take j).map (λk:Tk=>D.str k.1)=acc at h3 htk hal hnil;generalize A4 l j=k at hat htk;obtain⟨n,p,knl,rs⟩:=k;replace hat:(Av l)[j]?=some (.agg [.str n,.str p,.slice knl [] (Al rs)]):=hat;obtain⟨st_s,st_m,st_c⟩:=st;simp only at h3 h7 h8 h9 hG htk;simp only[↓go1,gB0,reduceIte,simprocAttr,h3,h7,h8,h9,hlt,hj0,Qf,hat,Ag,Ao,Ap,Qe,Qp,Qu,Qk,and_false];refine An.intro ⟨by omega,rfl,?_⟩ ?_
  ·first
    |exact(((hG.put (by omega)).put (by omega)).more (by omega)).grow (by omega)
    |exact(Gw.put (Gw.put hG (by omega)) (by omega)).grow (by omega)
  rw[BK hnil,←htk];simp only[↓go1,gB3,reduceIte,simprocAttr,h9,hw];refine ih (j+1) false _ _ _ (by omega) (by simp) ?_ rfl h7 h8 rfl;exact Gw.new (by simp only;omega)
open Classical in
def F129:List D->Option D
 |[.agg [.slice _ _ xs]]=>if DX xs then some (.slice (decide ((BS xs).length=0)) [] ((BS xs).map λk=> .str k.1))else none
 |_=>none
theorem ok129:(Ac F129).ok Qd 129:=by
 refine Ay (S:=λ_=>none) AL fn129 (λds r h=>?_) (λds r h=>?_)
 ·unfold F129 at h;split at h
  ·simp
  ·cases h
 ·unfold F129 at h;split at h
  ·rename_i nl t xs;split at h
   ·rename_i hc;obtain⟨l,rfl,hl,e⟩:=Dv hc;rw[e]at h;simp only[Qc]at h;subst h;unfold dc129;simp only[↓go1,gB2,reduceIte,simprocAttr,AP,Ag,Ql,Qq,Qh,and_self];refine loop129 (l:=l) (nl0:=nl) (t0:=t) hl (λst nl' t' h1 h2=>?_) l.length 0 true [] _ _ (by omega) (by simp) (.inl rfl) rfl rfl rfl rfl;simp only[↓go1,gB3,reduceIte,simprocAttr,h2];rw[h1]
    first|done|rfl|exact⟨rfl,rfl⟩
   ·cases h
  ·cases h
end Go.Vd
namespace Go.Vd
open Go.Proofs
def dc158:DC:=(sr [oo 2 (.box (.t 0)),oo 4 (.alloc [(.str []),(.int .i64 0),(.bool false)]),ci 5 0] (sr [lk 7 1 2,mm 8 1,cc 9 103 [(.t 7),(.t 8)],mm 6 9] (.seq (sr [mm 10 6,bi 11 .lss 10 0] (cd 11 (sr [oo 12 (.build [(.str []),(.int .i64 0),(.bool false)] []),oz (.store 3 (.t 4) (.t 12)),ci 5 14] .ret) .skip)) (sr [ff 13 0 2,ll 14 13,mm 15 6,ii 16 3 14 15,lk 17 3 16,oz (.store 3 (.t 4) (.t 17)),ci 5 0] .ret))))
theorem fn158:Fn Qd 158 18 dc158 [.cell (some 3) 4,.t 5]:=Am func158
def dc344:DC:=(sr [cb 2 false] (sr [mm 3 0,cc 4 259 [(.t 3),(.c (.int .i64 1)),(.c (.int .i64 999))],oo 5 (.un .not (.t 4)),mm 2 5] .ret))
theorem fn344:Fn Qd 344 6 dc344 [.t 2]:=Am func344
def dc259:DC:=(sr [cb 6 false] (sr [mm 7 0,mm 8 1,bt 9 .geq 7 8,mm 10 9,og 11 (.mv (.t 0)) 3 true,og 12 (.mv (.t 2)) 3 true,og 13 (.bin .leq (.t 11) (.t 12)) 3 true,oo 14 (.pick (.t 10) (.t 13) (.c (.bool false))),mm 6 14] .ret))
theorem fn259:Fn Qd 259 15 dc259 [.t 6]:=Am func259
end Go.Vd
namespace Go.Vd
open Go.Proofs Go.RowKit
def F259:List D->Option D
 |[.int .i64 n,.int .i64 lo,.int .i64 hi]=>some (.bool (decide (lo<=n∧n<=hi)))
 |_=>none
theorem ok259:(Ac F259).ok Qd 259:=by
 refine Ay (S:=λ_=>none) AL fn259 (λds r h=>?_) (λds r h=>?_)
 ·unfold F259 at h;split at h
  ·simp
  ·cases h
 ·unfold F259 at h;split at h
  ·rename_i n lo hi;simp only[Qc]at h;subst h;unfold dc259;simp only[↓go1,go2,reduceIte,simprocAttr]
   repeat' (first|(refine ifQ.intro (λh=>?_) (λh=>?_)<;>try (exfalso;omega))|(simp only[↓go1,gB3,reduceIte,simprocAttr,h,and_self,false_and]))
   all_goals (simp_all<;>omega)
  ·cases h
def K344:D->D->Option D
 | .junk,.int .i64 x=>some (.bool (!decide (1<=x∧x<=999)))
 |_,_=>none
theorem clo344:(cloS K344).ok Qd 344:=by
 obtain⟨S,hS,hl⟩:=A5 (Ab ok259 Ad);have s259:=hl 259 _ rfl;clear hl;refine clo_ok (S:=S) hS fn344 (λx caps m fr c d hcap hF hfr hl=>⟨by omega,?_⟩);unfold K344 at hF;split at hF
 ·rename_i n;simp only[Qc]at hF;subst hF;have h259:∀n lo hi,F259 [.int .i64 n,.int .i64 lo,.int .i64 hi]=some (.bool (decide (lo<=n∧n<=hi))):=λ_ _ _=>rfl
  unfold dc344;simp only[↓go1,gB3,reduceIte,simprocAttr,Aa s259,h259]
  try exact λi o y h=>h
 ·cases hF
theorem idx388:(EC 344 none K344).ok Qd 388:=idx_ok (by omega) fn388 rfl clo344
theorem cn343:(cnS 344 none K344).ok Qd 343:=cn_ok (by omega) fn343 idx388
theorem mtsD_head(l:List Mt):D.headSz (Ar l) 3=3:=by cases l<;>rfl
def mtsOk(nl:Bool)(xs:List D):Prop:=xs=Ar (B7 xs)∧xs.length<=1000000∧(nl=true->xs=[])
theorem mtsOk_mk{nl:Bool}{l:List Mt}(hl:l.length<=1000000)(hn:nl=true->l=[]):mtsOk nl (Ar l):=⟨by rw[Bf],by rw[Aw];exact hl,λh=>by rw[hn h];rfl⟩
theorem mtsOk_get{nl:Bool}{xs:List D}(h:mtsOk nl xs):∃l:List Mt,xs=Ar l∧l.length<=1000000∧(nl=true->l=[])∧B7 xs=l:=by
 refine⟨B7 xs,h.1,?_,λhn=>?_,rfl⟩
 ·have:=h.2.1;rw[h.1,Aw]at this;exact this
 ·rw[h.2.2 hn];rfl
theorem firstT_lt(bs:List Bool):A9 bs<bs.length:=by
 unfold A9;cases h:bs.findIdx? id with
 |none=>simp only;omega
 |some k=>
  rw[Q4]at h;obtain⟨hk,_⟩:=h;simp only;omega
theorem findE_lt(l:List Mt)(p:Bs):BR l p<l.length:=by
 have:=firstT_lt (l.map λm=>decide (m.1=p));rw[Qv]at this;exact this
open Classical in
def F158:List D->Option D
 |[.agg [.slice _ _ xs],.str p]=>if xs=Ar (B7 xs)∧xs.length<=1000000 then some (.tup (if BR (B7 xs) p<0 then [mtD ([],0,false),.int .i64 14]else [mtD (Bk (B7 xs) (BR (B7 xs) p).toNat),.int .i64 0]))else none
 |_=>none
theorem ok158:(Ac F158).ok Qd 158:=by
 obtain⟨S,hS,hl⟩:=A5 (Ab ok103 Ad);have s103:=hl 103 _ rfl;clear hl;refine Ay (S:=S) hS fn158 (λds r h=>?_) (λds r h=>?_)
 ·unfold F158 at h;split at h
  ·simp
  ·cases h
 ·unfold F158 at h;split at h
  ·rename_i nl t xs p;split at h
   ·rename_i hc;obtain⟨hx,hl⟩:=hc;simp only[Qc]at h;subst h;generalize B7 xs=l at hx;subst hx;rw[Aw]at hl;have h103:=F103_eq (nl:=nl) (t:=[]) (p:=p) hl;have hlt:=findE_lt l p;unfold dc158;generalize BR l p=i at h103 hlt;by_cases hi:i<0
    ·simp only[↓go1,gB0,reduceIte,simprocAttr,Ag,Ao,Ap,Qe,Qk,Qi,Qn,QS,and_false,AY,Bc,BH,Aa s103,h103,hi];simp[mtD];rfl
    ·obtain⟨j,rfl⟩:=QH (show 0<=i by omega);have hj:j<l.length:=by omega
     have hj0:(0:Int)<=(j:Int):=by omega
     have hat:(Ar l)[j]?=some (.agg [.str (Bk l j).1,.int .i64 (Bk l j).2.1,.bool (Bk l j).2.2]):=mtsD_at hj;simp only[↓go1,gB0,reduceIte,simprocAttr,Ag,Ao,Ap,Qe,Qp,Qu,Qk,Qi,Qn,QS,and_false,AY,Bc,Aa s103,h103,hi,hj0,hat,Qf];simp[mtD];rfl
   ·cases h
  ·cases h
end Go.Vd
namespace Go.Vd
open Go.Proofs
def dc110:DC:=(sr [oo 1 (.box (.t 0)),ci 2 0] (sr [ff 4 0 1,ll 5 4,cc 6 211 [(.t 5)],mm 3 6] (.seq (sr [mm 7 3,bi 8 .neq 7 0] (cd 8 (sr [mm 9 3,mm 2 9] .ret) .skip)) (.seq (sr [ff 10 1 1,ff 11 0 10,ll 12 11,bi 13 .lss 12 1,mm 14 13,og 15 (.faddr 1 (.t 1)) 4 false,og 16 (.faddr 0 (.t 15)) 4 false,og 17 (.load none (.t 16)) 4 false,og 18 (.bin .gtr (.t 17) (.c (.int .i64 6))) 4 false,oo 19 (.pick (.t 14) (.c (.bool true)) (.t 18))] (cd 19 (sr [ci 2 2] .ret) .skip)) (sr [ci 2 0] .ret)))))
theorem fn110:Fn Qd 110 20 dc110 [.t 2]:=Am func110
def dc74l0:DC:=(.seq (sr [mm 6 5,mm 7 0,nn 8 false 7,bt 9 .lss 6 8] (cd 9 .skip (.exit 0))) (.seq (.block 1 (sr [mm 12 0,mm 13 5,ii 14 3 12 13,ff 15 0 14,ll 16 15,mm 17 1,bt 18 .eql 16 17] (cd 18 (sr [mm 19 5,mm 4 19] .ret) .skip))) (.row [mm 10 5,bi 11 .add 10 1,mm 5 11])))
def dc74:DC:=(sr [ci 4 0] (.seq (sr [ci 5 0] (.block 0 (.loop dc74l0))) (sr [oo 4 (.mv (.c (.int .i64 (-1))))] .ret)))
theorem fn74:Fn Qd 74 20 dc74 [.t 4]:=Am func74
def dc116:DC:=(sr [oo 1 (.box (.t 0)),ci 2 0] (.seq (sr [ff 4 0 1,ll 5 4,cc 6 217 [(.t 5)],oo 7 (.un .not (.t 6))] (cd 7 (sr [ci 2 2] .ret) .skip)) (sr [ff 8 2 1,ll 9 8,cc 10 218 [(.t 9)],mm 3 10] (.seq (sr [mm 11 3,bi 12 .neq 11 0] (cd 12 (sr [mm 13 3,mm 2 13] .ret) .skip)) (.seq (sr [ff 14 1 1,ll 15 14,oo 16 (.bin .eql (.t 15) (.c (.str []))),mm 17 16,og 18 (.faddr 0 (.t 1)) 3 true,og 19 (.load none (.t 18)) 3 true,og 20 (.bin .eql (.t 19) (.c (.str [114,111,111,116]))) 3 true,oo 21 (.pick (.t 17) (.t 20) (.c (.bool false))),mm 22 21,og 23 (.faddr 1 (.t 1)) 8 false,og 24 (.load none (.t 23)) 8 false,og 25 (.call (.c (.fn 217 [])) [(.t 24)]) 8 false,og 26 (.mv (.t 25)) 8 false,og 27 (.faddr 1 (.t 1)) 12 true,og 28 (.load none (.t 27)) 12 true,og 29 (.faddr 0 (.t 1)) 12 true,og 30 (.load none (.t 29)) 12 true,og 31 (.bin .neq (.t 28) (.t 30)) 12 true,og 32 (.pick (.t 26) (.t 31) (.c (.bool false))) 8 false,oo 33 (.pick (.t 22) (.c (.bool true)) (.t 32))] (cd 33 (sr [ci 2 0] .ret) .skip)) (sr [ci 2 2] .ret))))))
theorem fn116:Fn Qd 116 34 dc116 [.t 2]:=Am func116
def dc117l0:DC:=(.seq (sr [mm 6 5,mm 7 0,nn 8 false 7,bt 9 .lss 6 8] (cd 9 .skip (.exit 0))) (.seq (.block 1 (sr [mm 12 0,mm 13 5,ii 14 3 12 13,ff 15 0 14,ll 16 15,mm 17 1,bt 18 .eql 16 17] (cd 18 (sr [mm 19 5,mm 4 19] .ret) .skip))) (.row [mm 10 5,bi 11 .add 10 1,mm 5 11])))
def dc117:DC:=(sr [ci 4 0] (.seq (sr [ci 5 0] (.block 0 (.loop dc117l0))) (sr [oo 4 (.mv (.c (.int .i64 (-1))))] .ret)))
theorem fn117:Fn Qd 117 20 dc117 [.t 4]:=Am func117
end Go.Vd
namespace Go.Vd
open Go.Proofs Go.RowKit
def F110:List D->Option D
 |[.agg [.str p,.int .i64 q,.bool b]]=>if p.length<=1000000 then some (.int .i64 (CR p q))else none
 |_=>none
theorem ok110:(Ac F110).ok Qd 110:=by
 obtain⟨S,hS,hl⟩:=A5 (Ab ok211 Ad);have s211:=hl 211 _ rfl;clear hl;refine Ay (S:=S) hS fn110 (λds r h=>?_) (λds r h=>?_)
 ·unfold F110 at h;split at h
  ·simp
  ·cases h
 ·unfold F110 at h;split at h
  ·rename_i p q b;split at h
   ·rename_i hc;simp only[Qc]at h;subst h;unfold dc110;have h211:F211 [.str p]=some (.int .i64 (AV p)):=if_pos hc;unfold CR;generalize AV p=e at *;simp only[↓go1,gB2,go4,reduceIte,simprocAttr,Ag,Ql,Qq,Qh,and_self,Aa s211,h211]
    repeat' (first|(refine ifQ.intro (λh=>?_) (λh=>?_)<;>try (exfalso;omega))|(simp only[↓go1,gB0,reduceIte,simprocAttr,h,Ag]))
    all_goals (first|rfl|(rw[D.int.injEq];refine⟨rfl,?_⟩;(repeat' split)<;>first|rfl|(exfalso;simp_all;done)|(exfalso;simp_all;omega)))
   ·cases h
  ·cases h
theorem ET{bs:List Bool}{j:Nat}(h:bs[j]?=some true)(hall:∀i,i<j->bs[i]?=some false):A9 bs=j:=by
 have hj:j<bs.length:=(Qy.1 h).1;have:bs.findIdx? id=some j:=by
  rw[Q4];refine⟨hj,by rw[Qg hj]at h;simpa using h,λi hi=>?_⟩;have:=hall i hi;rw[Qg (by omega)]at this;simp[Qc]at this;simp[this]
 simp only[A9,this]
theorem firstT_none{bs:List Bool}(hall:∀i,i<bs.length->bs[i]?=some false):A9 bs=-1:=by
 have:bs.findIdx? id=none:=List.findIdx?_eq_none_iff.2 λb hb'=>by
  obtain⟨i,hi,rfl⟩:=Q_ hb';have:=hall i hi;rw[Qg hi]at this;simpa using Q9 this
 simp only[A9,this]
theorem loop74{S:Summs}{ns:Id}{l:List Mt}{p:Bs}{nl:Bool}{t:Id}{Q:Ex->St->Prop}(hb:l.length<=1000000)
  (hret:∀st,st.s 4= .int .i64 (A9 (l.map λm=>decide (m.1=p)))->Q .ret st) (hexit:∀st,A9 (l.map λm=>decide (m.1=p))=-1->Q (.exit 0) st):
  ∀(f j:Nat) st g,l.length=j+f->(∀i,i<j->(l.map λm=>decide (m.1=p))[i]?=some false)->st.s 0= .slice nl t (Ar l)->st.s 1= .str p->st.s 5= .int .i64 (j:Int)->A6 S ns dc74l0 Q st g:=by
 intro f;induction f with
 |zero=>
  intro j st g hf hall h0 h1 h5;refine Af dc74l0.eq_1 ?_;have:¬((j:Int)<l.length):=by omega
  simp only[↓go1,go2,go4,reduceIte,simprocAttr,h0,h5,this,Aw];exact hexit _ (firstT_none (by rw[Qv];intro i hi;exact hall i (by omega)))
 |succ f ih=>
  intro j st g hf hall h0 h1 h5;refine Af dc74l0.eq_1 ?_;have hj:j<l.length:=by omega
  have hlt:((j:Int)<l.length):=by omega
  have hj0:(0:Int)<=(j:Int):=by omega
  have hw:IntKind.i64.wrap ((j:Int)+1)=((j+1:Nat):Int):=w64 (by omega) (by omega);have hat:(Ar l)[j]?=some (.agg [.str (Bk l j).1,.int .i64 (Bk l j).2.1,.bool (Bk l j).2.2]):=mtsD_at hj;have hbj:(l.map λm=>decide (m.1=p))[j]?=some (decide ((Bk l j).1=p)):=by simp[Bk,Qg hj]
  have hm:Bk l j∈l:=by simp[Bk,Qg hj]
  generalize Bk l j=m at hat hbj;obtain⟨st_s,st_m,st_c⟩:=st;simp only at h0 h1 h5;by_cases hq:m.1=p
  ·have hbt:=hbj;simp only[hq,decide_true]at hbt;simp only[↓go1,gB2,go4,reduceIte,simprocAttr,h0,h1,h5,hlt,hj0,Qf,hat,Aw,Ql,Qj,Qo,hq];exact hret _ (by rw[ET hbt hall];rfl)
  ·have hbt:=hbj;simp only[hq,decide_false]at hbt;simp only[↓go1,gB2,go4,reduceIte,simprocAttr,h0,h1,h5,hlt,hj0,hw,Qf,hat,Aw,Ql,Qj,Qo,hq];refine ih (j+1) _ _ (by omega) (λi hi=>?_) h0 h1 rfl;rcases Q2 (Q7 hi)with hi|rfl
   ·exact hall i hi
   ·exact hbt
open Classical in
def F74:List D->Option D
 |[.slice _ _ xs,.str p]=>if xs=Ar (B7 xs)∧xs.length<=1000000 then some (.int .i64 (BR (B7 xs) p))else none
 |_=>none
theorem ok74:(Ac F74).ok Qd 74:=by
 refine Ay (S:=λ_=>none) AL fn74 (λds r h=>?_) (λds r h=>?_)
 ·unfold F74 at h;split at h
  ·simp
  ·cases h
 ·unfold F74 at h;split at h
  ·rename_i nl t xs p;split at h
   ·rename_i hc;obtain⟨hx,hl⟩:=hc;simp only[Qc]at h;subst h;generalize B7 xs=l at hx;subst hx;rw[Aw]at hl;unfold dc74 BR;simp only[↓go1,go2,Qb];refine loop74 (l:=l) (p:=p) (nl:=nl) (t:=t) hl (λst h1=>?_) (λst h1=>?_) l.length 0 _ _ (by omega) (by simp) rfl rfl rfl
    ·simp only[↓go1,gB3,h1]
    ·simp only[↓go1,gB3,reduceIte,Qb,h1]
   ·cases h
  ·cases h
def Ch(l:List Mt)(p:Bs):Int:=A9 (l.map λm=>B9 p m.1)
theorem loop117{S:Summs}{ns:Id}{l:List Tk}{p:Bs}{nl:Bool}{t:Id}{Q:Ex->St->Prop}(hb:l.length<=1000000)
  (hret:∀st,st.s 4= .int .i64 (A9 (l.map λm=>decide (m.1=p)))->Q .ret st) (hexit:∀st,A9 (l.map λm=>decide (m.1=p))=-1->Q (.exit 0) st):
  ∀(f j:Nat) st g,l.length=j+f->(∀i,i<j->(l.map λm=>decide (m.1=p))[i]?=some false)->st.s 0= .slice nl t (Av l)->st.s 1= .str p->st.s 5= .int .i64 (j:Int)->A6 S ns dc117l0 Q st g:=by
 intro f;induction f with
 |zero=>
  intro j st g hf hall h0 h1 h5;refine Af dc117l0.eq_1 ?_;have:¬((j:Int)<l.length):=by omega
  simp only[↓go1,go2,go4,reduceIte,simprocAttr,h0,h5,this,AP];exact hexit _ (firstT_none (by rw[Qv];intro i hi;exact hall i (by omega)))
 |succ f ih=>
  intro j st g hf hall h0 h1 h5;refine Af dc117l0.eq_1 ?_;have hj:j<l.length:=by omega
  have hlt:((j:Int)<l.length):=by omega
  have hj0:(0:Int)<=(j:Int):=by omega
  have hw:IntKind.i64.wrap ((j:Int)+1)=((j+1:Nat):Int):=w64 (by omega) (by omega);have hat:(Av l)[j]?=some (.agg [.str (A4 l j).1,.str (A4 l j).2.1,.slice (A4 l j).2.2.1 [] (Al (A4 l j).2.2.2)]):=D5 hj;have hbj:(l.map λm=>decide (m.1=p))[j]?=some (decide ((A4 l j).1=p)):=by simp[A4,Qg hj]
  have hm:A4 l j∈l:=by simp[A4,Qg hj]
  generalize A4 l j=m at hat hbj;obtain⟨st_s,st_m,st_c⟩:=st;simp only at h0 h1 h5;by_cases hq:m.1=p
  ·have hbt:=hbj;simp only[hq,decide_true]at hbt;simp only[↓go1,gB2,go4,reduceIte,simprocAttr,h0,h1,h5,hlt,hj0,Qf,hat,AP,Ql,Qj,Qo,hq];exact hret _ (by rw[ET hbt hall];rfl)
  ·have hbt:=hbj;simp only[hq,decide_false]at hbt;simp only[↓go1,gB2,go4,reduceIte,simprocAttr,h0,h1,h5,hlt,hj0,hw,Qf,hat,AP,Ql,Qj,Qo,hq];refine ih (j+1) _ _ (by omega) (λi hi=>?_) h0 h1 rfl;rcases Q2 (Q7 hi)with hi|rfl
   ·exact hall i hi
   ·exact hbt
def C0(l:List Tk)(p:Bs):Int:=A9 (l.map λm=>decide (m.1=p))
open Classical in
def F117:List D->Option D
 |[.slice _ _ xs,.str p]=>if xs=Av (BS xs)∧xs.length<=1000000 then some (.int .i64 (C0 (BS xs) p))else none
 |_=>none
theorem ok117:(Ac F117).ok Qd 117:=by
 refine Ay (S:=λ_=>none) AL fn117 (λds r h=>?_) (λds r h=>?_)
 ·unfold F117 at h;split at h
  ·simp
  ·cases h
 ·unfold F117 at h;split at h
  ·rename_i nl t xs p;split at h
   ·rename_i hc;obtain⟨hx,hl⟩:=hc;simp only[Qc]at h;subst h;generalize BS xs=l at hx;subst hx;rw[AP]at hl;unfold dc117 C0;simp only[↓go1,go2,Qb];refine loop117 (l:=l) (p:=p) (nl:=nl) (t:=t) hl (λst h1=>?_) (λst h1=>?_) l.length 0 _ _ (by omega) (by simp) rfl rfl rfl
    ·simp only[↓go1,gB3,h1]
    ·simp only[↓go1,gB3,reduceIte,Qb,h1]
   ·cases h
  ·cases h
theorem ok116:(Ac F113).ok Qd 116:=by
 obtain⟨S,hS,hl⟩:=A5 (Ab ok217 (Ab ok218 Ad));have s217:=hl 217 _ rfl;have s218:=hl 218 _ rfl;clear hl;refine Ay (S:=S) hS fn116 (λds r h=>?_) (λds r h=>?_)
 ·unfold F113 at h;split at h
  ·simp
  ·cases h
 ·unfold F113 at h;split at h
  ·rename_i n p nl t xs;split at h
   ·rename_i hc;obtain⟨⟨hx,hl,hp⟩,hn,hpp⟩:=hc;simp only[Qc]at h;subst h;generalize A7 xs=l at hx hp;subst hx;rw[Au]at hl;have h217n:F217 [.str n]=some (.bool (BC n)):=rfl;have h217p:F217 [.str p]=some (.bool (BC p)):=rfl;have h218:=Fpol_eq (nl:=nl) (t:=[]) hl hp;have hu:=EK l;have hcl:=CV l;unfold dc116 FG;generalize Cq l=e at *;generalize BC p=bp at *;generalize BC n=bn at *;cases bn with
    |false=>simp only[↓go1,gB2,go4,reduceIte,simprocAttr,Ag,Ql,Qq,Qh,and_self,Aa s217,h217n]
    |true=>
     simp only[↓go1,gB0,reduceIte,simprocAttr,Ag,Aa s217,h217n,Aa s218,h218]
     repeat' (first|(refine ifQ.intro (λh=>?_) (λh=>?_)<;>try (exfalso;omega))|(simp only[↓go1,gB0,reduceIte,simprocAttr,h,Ag,false_and,and_false,Aa s217,h217p]))
     all_goals (try simp_all)
   ·cases h
  ·cases h
end Go.Vd
namespace Go.Vd
open Go.Proofs
def dc119l0:DC:=(.seq (.seq (.drawn [mm 6 5,mm 7 0,nn 8 false 7,bt 9 .lss 6 8,mm 10 9,og 11 (.mv (.t 0)) 4 true,og 12 (.mv (.t 5)) 4 true,og 13 (.iaddr 3 (.t 11) (.t 12)) 4 true,og 14 (.faddr 0 (.t 13)) 4 true,og 15 (.load none (.t 14)) 4 true,og 16 (.faddr 0 (.t 3)) 4 true,og 17 (.load none (.t 16)) 4 true,og 18 (.bin .lss (.t 15) (.t 17)) 4 true,oo 19 (.pick (.t 10) (.t 18) (.c (.bool false)))] []) (cd 19 .skip (.exit 0))) (.block 1 (.row [mm 20 5,bi 21 .add 20 1,mm 5 21])))
def dc119:DC:=(sr [oo 3 (.box (.t 1)),oo 4 (.mv (.c (.slice true [] [])))] (sr [ci 5 0] (.seq (.block 0 (.loop dc119l0)) (.seq (.drawn [oo 22 (.bslice 134 3 []),mm 23 0,mm 24 5,oo 25 (.cutl 3 (.t 23) none (some (.t 24))),oo 26 (.app 134 3 56 (.t 22) (.t 25)),lk 27 3 3,oo 28 (.bslice 134 3 [(.t 27)]),oo 29 (.app 134 3 56 (.t 26) (.t 28)),mm 30 0,mm 31 5,oo 32 (.cutl 3 (.t 30) (some (.t 31)) none),oo 33 (.app 134 3 56 (.t 29) (.t 32)),mm 4 33] [(0,5),(4,5),(4,6),(6,4)]) .ret))))
theorem fn119:Fn Qd 119 34 dc119 [.t 4]:=Am func119
def dc52:DC:=(sr [oo 3 (.box (.t 1)),oo 4 (.mv (.c (.slice true [] []))),ci 5 0] (sr [lk 8 3 3,cc 9 116 [(.t 8)],mm 6 9] (.seq (sr [mm 10 6,bi 11 .neq 10 0] (cd 11 (sr [mm 12 0,mm 13 6,mm 4 12,mm 5 13] .ret) .skip)) (.seq (sr [ff 14 1 3,ll 15 14,oo 16 (.bin .eql (.t 15) (.c (.str [])))] (cd 16 (sr [mm 17 0,mm 4 17,ci 5 2] .ret) .skip)) (.seq (sr [mm 18 0,ff 19 0 3,ll 20 19,cc 21 117 [(.t 18),(.t 20)],bi 22 .geq 21 0] (cd 22 (sr [mm 23 0,mm 4 23,ci 5 20] .ret) .skip)) (sr [mm 24 0,ff 25 1 3,ll 26 25,cc 27 117 [(.t 24),(.t 26)],mm 7 27] (.seq (sr [mm 28 7,bi 29 .lss 28 0] (cd 29 (sr [mm 30 0,mm 4 30,ci 5 6] .ret) .skip)) (.seq (.seq (.drawn [ff 31 2 3,ll 32 31,mm 33 0,mm 34 7,ii 35 3 33 34,ff 36 2 35,ll 37 36,cc 38 118 [(.t 32),(.t 37)],oo 39 (.un .not (.t 38))] []) (cd 39 (sr [mm 40 0,mm 4 40,ci 5 13] .ret) .skip)) (sr [mm 41 0,lk 42 3 3,cc 43 119 [(.t 41),(.t 42)],mm 4 43,ci 5 0] .ret)))))))))
theorem fn52:Fn Qd 52 44 dc52 [.t 4,.t 5]:=Am func52
def dc49:DC:=(sr [oo 0 (.mv (.c (.slice true [] [])))] (sr [oo 1 (.build [(.str []),(.int .u8 0)] [(1,1,(.c (.int .u8 63)))]),oo 2 (.bslice 191 2 [(.t 1)]),oo 3 (.build [(.str []),(.str []),(.slice true [] [])] [(0,1,(.c (.str [114,111,111,116]))),(2,1,(.t 2))]),oo 4 (.bslice 134 3 [(.t 3)]),mm 0 4] .ret))
theorem fn49:Fn Qd 49 5 dc49 [.t 0]:=Am func49
end Go.Vd
namespace Go.Vd
open Go.Proofs Go.RowKit
def F49:List D->Option D
 |[]=>some (.slice false [] (Av [firstTk]))
 |_=>none
theorem ok49:(Ac F49).ok Qd 49:=by
 refine Ay (S:=λ_=>none) AL fn49 (λds r h=>?_) (λds r h=>?_)
 ·unfold F49 at h;split at h
  ·simp
  ·cases h
 ·unfold F49 at h;split at h
  ·simp only[Qc]at h;subst h;unfold dc49;simp only[↓go1,gB2,go4,reduceIte,simprocAttr,and_self,Qp,Qu,Qj,Qs,Qn,Qm,BH,CW,QG,QK,QP,Av,tkD,firstTk,Al,rlD,Q1,QK]
  ·cases h
end Go.Vd
namespace Go.Vd
open Go.Proofs
def dc107:DC:=(sr [mm 5 0,nn 6 false 5,mm 4 6] (.row [mm 7 0,mm 8 4,mm 9 4,oo 10 (.conv .u64 (.t 9)),cc 11 209 [(.t 10)],mm 12 1,cc 13 208 [(.t 7),(.c (.int .i64 0)),(.t 8),(.t 11),(.t 12)]]))
theorem fn107:Fn Qd 107 14 dc107 []:=Am func107
def dc208l0:DC:=(.block 1 (sr [mm 21 2,mm 22 1,bt 23 .sub 21 22,mm 12 23] (.seq (sr [mm 24 12,bi 25 .leq 24 12] (cd 25 (sr [mm 26 0,mm 27 1,mm 28 2,mm 29 4,cc 30 302 [(.t 26),(.t 27),(.t 28),(.t 29)]] .ret) .skip)) (.seq (sr [mm 31 3,bi 32 .eql 31 0] (cd 32 (sr [mm 33 0,mm 34 1,mm 35 2,mm 36 4,cc 37 303 [(.t 33),(.t 34),(.t 35),(.t 36)]] .ret) .skip)) (.seq (sr [mm 38 10,oo 39 (.un .not (.t 38))] (cd 39 (sr [mm 40 0,mm 41 1,mm 42 2,mm 43 4,cc 44 304 [(.t 40),(.t 41),(.t 42),(.t 43)]] (.row [mm 45 3,bi 46 .sub 45 1,mm 3 46])) .skip)) (sr [mm 48 0,mm 49 1,mm 50 2,mm 51 4,cc 52 305 [(.t 48),(.t 49),(.t 50),(.t 51)],mm 47 52,xx 53 0 47,xx 54 1 47,mm 13 53,mm 14 54] (.seq (sr [mm 55 14,bi 56 .eql 55 2] (cd 56 (sr [mm 57 0,mm 58 1,mm 59 2,mm 60 4,cc 61 306 [(.t 57),(.t 58),(.t 59),(.t 60)]] (sr [mm 62 2,bi 63 .sub 62 1,mm 64 13,mm 65 1,bt 66 .sub 64 65,bt 67 .sub 63 66,mm 13 67] (.row [ci 14 1]))) .skip)) (.seq (sr [mm 68 10,mm 69 68,og 70 (.mv (.t 11)) 1 true,oo 71 (.pick (.t 69) (.t 70) (.c (.bool false))),mm 72 71,og 73 (.mv (.t 14)) 4 true,og 74 (.bin .eql (.t 73) (.c (.int .i64 1))) 4 true,oo 75 (.pick (.t 72) (.t 74) (.c (.bool false)))] (cd 75 (sr [mm 76 0,mm 77 1,mm 78 2,mm 79 4,cc 80 307 [(.t 76),(.t 77),(.t 78),(.t 79)]] (cd 80 .ret .skip)) .skip)) (.seq (.seq (.drawn [mm 81 1,bi 82 .gtr 81 0,mm 83 82,og 84 (.mv (.t 4)) 2 true,og 85 (.mv (.t 0)) 2 true,og 86 (.mv (.t 1)) 2 true,og 87 (.bin .sub (.t 86) (.c (.int .i64 1))) 2 true,og 88 (.iaddr 3 (.t 85) (.t 87)) 2 true,og 89 (.load (some 3) (.t 88)) 2 true,og 90 (.mv (.t 0)) 2 true,og 91 (.mv (.t 13)) 2 true,og 92 (.iaddr 3 (.t 90) (.t 91)) 2 true,og 93 (.load (some 3) (.t 92)) 2 true,og 94 (.call (.t 84) [(.t 89),(.t 93)]) 2 true,og 95 (.bin .lss (.t 94) (.c (.int .i64 0))) 2 true,og 96 (.un .not (.t 95)) 2 true,oo 97 (.pick (.t 83) (.t 96) (.c (.bool false)))] []) (cd 97 (sr [mm 98 0,mm 99 1,mm 100 2,mm 101 13,mm 102 4,cc 103 308 [(.t 98),(.t 99),(.t 100),(.t 101),(.t 102)],mm 15 103] (sr [mm 104 15,mm 1 104] (.exit 1))) .skip)) (sr [mm 106 0,mm 107 1,mm 108 2,mm 109 13,mm 110 4,cc 111 309 [(.t 106),(.t 107),(.t 108),(.t 109),(.t 110)],mm 105 111,xx 112 0 105,xx 113 1 105,mm 16 112,mm 17 113] (sr [mm 114 17,mm 11 114] (sr [mm 115 16,mm 116 1,bt 117 .sub 115 116,mm 118 2,mm 119 16,bt 120 .sub 118 119,mm 18 117,mm 19 120] (sr [mm 121 12,bi 122 .quo 121 8,mm 20 122] (sr [mm 123 18,mm 124 19,bt 125 .lss 123 124] (cd 125 (sr [mm 126 18,mm 127 20,bt 128 .geq 126 127,mm 10 128] (sr [mm 129 0,mm 130 1,mm 131 16,mm 132 3,mm 133 4,cc 134 208 [(.t 129),(.t 130),(.t 131),(.t 132),(.t 133)]] (.row [mm 135 16,bi 136 .add 135 1,mm 1 136]))) (sr [mm 137 19,mm 138 20,bt 139 .geq 137 138,mm 10 139] (sr [mm 140 0,mm 141 16,bi 142 .add 141 1,mm 143 2,mm 144 3,mm 145 4,cc 146 208 [(.t 140),(.t 142),(.t 143),(.t 144),(.t 145)]] (.row [mm 147 16,mm 2 147]))))))))))))))))))
def dc208:DC:=(sr [cb 10 true] (sr [cb 11 true] (.block 0 (.loop dc208l0))))
theorem fn208:Fn Qd 208 148 dc208 []:=Am func208
def dc302l0:DC:=(.seq (.seq (.drawn [mm 18 9,mm 19 1,bt 20 .gtr 18 19,mm 21 20,og 22 (.mv (.t 3)) 3 true,og 23 (.mv (.t 0)) 3 true,og 24 (.mv (.t 9)) 3 true,og 25 (.iaddr 3 (.t 23) (.t 24)) 3 true,og 26 (.load (some 3) (.t 25)) 3 true,og 27 (.mv (.t 0)) 3 true,og 28 (.mv (.t 9)) 3 true,og 29 (.bin .sub (.t 28) (.c (.int .i64 1))) 3 true,og 30 (.iaddr 3 (.t 27) (.t 29)) 3 true,og 31 (.load (some 3) (.t 30)) 3 true,og 32 (.call (.t 22) [(.t 26),(.t 31)]) 3 true,og 33 (.bin .lss (.t 32) (.c (.int .i64 0))) 3 true,oo 34 (.pick (.t 21) (.t 33) (.c (.bool false)))] []) (cd 34 .skip (.exit 2))) (.seq (.block 3 (.drawn [mm 37 0,mm 38 9,mm 39 0,mm 40 9,bi 41 .sub 40 1,mm 42 0,mm 43 9,bi 44 .sub 43 1,ii 45 3 42 44,lk 46 3 45,mm 47 0,mm 48 9,ii 49 3 47 48,lk 50 3 49,ii 51 3 37 38,oz (.store 3 (.t 51) (.t 46)),ii 52 3 39 41,oz (.store 3 (.t 52) (.t 50))] [])) (.row [mm 35 9,bi 36 .sub 35 1,mm 9 36])))
def dc302l1:DC:=(.seq (sr [mm 12 8,mm 13 2,bt 14 .lss 12 13] (cd 14 .skip (.exit 0))) (.seq (.block 1 (sr [mm 17 8,mm 9 17] (.block 2 (.loop dc302l0)))) (.row [mm 15 8,bi 16 .add 15 1,mm 8 16])))
def dc302:DC:=(sr [mm 10 1,bi 11 .add 10 1,mm 8 11] (.block 0 (.loop dc302l1)))
theorem fn302:Fn Qd 302 53 dc302 []:=Am func302
def dc209:DC:=(sr [ci 2 0] (.seq (.cond (.c (.bool false)) (sr [mm 3 0,oo 4 (.conv .u32 (.t 3)),cc 5 310 [(.t 4)],mm 2 5] .ret) .skip) (sr [mm 6 0,cc 7 311 [(.t 6)],mm 2 7] .ret)))
theorem fn209:Fn Qd 209 8 dc209 [.t 2]:=Am func209
def dc311:DC:=(sr [ci 2 0] (.seq (sr [mm 3 0,oo 4 (.bin .geq (.t 3) (.c (.int .u64 4294967296)))] (cd 4 (sr [mm 5 0,oo 6 (.bin .shr (.t 5) (.c (.int .u64 32))),mm 0 6] (.row [ci 2 32])) .skip)) (.seq (sr [mm 7 0,oo 8 (.bin .geq (.t 7) (.c (.int .u64 65536)))] (cd 8 (sr [mm 9 0,oo 10 (.bin .shr (.t 9) (.c (.int .u64 16))),mm 0 10] (.row [mm 11 2,bi 12 .add 11 16,mm 2 12])) .skip)) (.seq (sr [mm 13 0,oo 14 (.bin .geq (.t 13) (.c (.int .u64 256)))] (cd 14 (sr [mm 15 0,oo 16 (.bin .shr (.t 15) (.c (.int .u64 8))),mm 0 16] (.row [mm 17 2,bi 18 .add 17 8,mm 2 18])) .skip)) (sr [mm 19 2,mm 20 0,oo 21 (.conv .u8 (.t 20)),oo 22 (.idxs (.c (.str [0,1,2,2,3,3,3,3,4,4,4,4,4,4,4,4,5,5,5,5,5,5,5,5,5,5,5,5,5,5,5,5,6,6,6,6,6,6,6,6,6,6,6,6,6,6,6,6,6,6,6,6,6,6,6,6,6,6,6,6,6,6,6,6,7,7,7,7,7,7,7,7,7,7,7,7,7,7,7,7,7,7,7,7,7,7,7,7,7,7,7,7,7,7,7,7,7,7,7,7,7,7,7,7,7,7,7,7,7,7,7,7,7,7,7,7,7,7,7,7,7,7,7,7,7,7,7,7,8,8,8,8,8,8,8,8,8,8,8,8,8,8,8,8,8,8,8,8,8,8,8,8,8,8,8,8,8,8,8,8,8,8,8,8,8,8,8,8,8,8,8,8,8,8,8,8,8,8,8,8,8,8,8,8,8,8,8,8,8,8,8,8,8,8,8,8,8,8,8,8,8,8,8,8,8,8,8,8,8,8,8,8,8,8,8,8,8,8,8,8,8,8,8,8,8,8,8,8,8,8,8,8,8,8,8,8,8,8,8,8,8,8,8,8,8,8,8,8,8,8,8,8,8,8,8,8])) (.t 21)),oo 23 (.conv .i64 (.t 22)),bt 24 .add 19 23,mm 2 24] .ret)))))
theorem fn311:Fn Qd 311 25 dc311 [.t 2]:=Am func311
def dc45:DC:=(sr [oo 2 (.box (.t 0)),oo 3 (.box (.t 1)),oo 4 (.alloc [(.slice true [] [])]),ci 5 0] (.seq (sr [lk 8 3 3,cc 9 102 [(.t 8)],mm 6 9] (sr [mm 10 6,bi 11 .neq 10 0] (cd 11 (sr [lk 12 1 2,mm 13 6,oz (.store 1 (.t 4) (.t 12)),mm 5 13] .ret) .skip))) (.seq (.block 0 (sr [lk 15 1 2,ff 16 0 3,ll 17 16,cc 18 103 [(.t 15),(.t 17)],bi 19 .geq 18 0,mm 14 19] (cd 14 (sr [lk 20 1 2,oz (.store 1 (.t 4) (.t 20)),ci 5 20] .ret) (.seq (.drawn [ff 22 0 3,ll 23 22,lk 24 1 2,cc 25 105 [(.t 24)],cc 26 104 [(.t 23),(.t 25)],mm 21 26] [(3,1)]) (cd 21 (sr [lk 27 1 2,oz (.store 1 (.t 4) (.t 27)),ci 5 15] .ret) (sr [ff 29 0 2,ll 30 29,nn 31 false 30,bi 32 .geq 31 4,mm 28 32] (cd 28 (sr [lk 33 1 2,oz (.store 1 (.t 4) (.t 33)),ci 5 24] .ret) .skip))))))) (sr [ff 34 0 2,ll 35 34,lk 36 3 3,oo 37 (.bslice 124 3 [(.t 36)]),oo 38 (.bslice 50 1 [(.t 35),(.t 37)]),cc 39 106 [(.t 38)],mm 7 39] (sr [mm 40 7,cc 41 107 [(.t 40),(.c (.fn 108 []))]] (sr [mm 42 7,oo 43 (.build [(.slice true [] [])] [(0,1,(.t 42))]),oz (.store 1 (.t 4) (.t 43)),ci 5 0] .ret))))))
theorem fn45:Fn Qd 45 44 dc45 [.cell (some 1) 4,.t 5]:=Am func45
end Go.Vd
namespace Go.Vd
section
variable{α:Type}(lt:α->α->Bool)(d:α)
def swp(xs:List α)(j:Nat):List α:=(xs.set (j+1) (xs.getD j d)).set j (xs.getD (j+1) d)
def insE(xs:List α):Nat->List α
 |0=>xs
 |j+1=>if lt (xs.getD (j+1) d) (xs.getD j d)=true then insE (swp d xs j) j else xs
def CS:Nat->Nat->List α->List α
 |0,_,xs=>xs
 |f+1,i,xs=>CS f (i+1) (insE lt d xs i)
def kR(l:List α)(m:α):Nat->Nat
 |0=>0
 |j+1=>if lt m (l.getD j d)=true then kR l m j else j+1
theorem kR_le(l:List α)(m:α):∀j,kR lt d l m j<=j
 |0=>Qw _
 |j+1=>by
  unfold kR;split
  ·exact Nat.le_succ_of_le (kR_le l m j)
  ·exact Qw _
theorem swp_len(xs:List α)(j:Nat):(swp d xs j).length=xs.length:=by simp[swp]
theorem insE_len:∀(j:Nat)(xs:List α),(insE lt d xs j).length=xs.length
 |0,xs=>rfl
 |j+1,xs=>by
  unfold insE;split
  ·rw[insE_len j,swp_len]
  ·rfl
theorem FO:∀(f i:Nat)(xs:List α),(CS lt d f i xs).length=xs.length
 |0,_,xs=>rfl
 |f+1,i,xs=>by rw[CS,FO f,insE_len]
theorem swp_app(a b:List α)(x y:α):swp d (a++x::y::b) a.length=a++y::x::b:=by
 unfold swp;have h1:(a++x::y::b).getD a.length d=x:=by simp[QU]
 have h2:(a++x::y::b).getD (a.length+1) d=y:=by
  simp[QU]
 rw[h1,h2,Zq _ _ (by omega),show a.length+1-a.length=1 by omega,Zq _ _ (Qw _)];simp
theorem insE_app(l:List α)(m:α):∀(j:Nat)(b:List α),j<=l.length->insE lt d (l.take j++m::b) j=l.take (kR lt d l m j)++m::((l.take j).drop (kR lt d l m j)++b)
 |0,b,_=>by simp[insE,kR]
 |j+1,b,h=>by
  have hlen:(l.take j).length=j:=by rw[QJ];omega
  have hx:l.take (j+1)=l.take j++[l.getD j d]:=by
   rw[Q6 (by omega)];simp[QU,Qg (show j<l.length by omega)]
  have e:l.take (j+1)++m::b=l.take j++l.getD j d::m::b:=by rw[hx];simp
  have g1:(l.take j++l.getD j d::m::b).getD (j+1) d=m:=by
   rw[QU,Zf (by omega),hlen,show j+1-j=1 by omega];rfl
  have g2:(l.take j++l.getD j d::m::b).getD j d=l.getD j d:=by
   rw[QU,Zf (by omega),hlen,Nat.sub_self];rfl
  rw[e];unfold insE kR;rw[g1,g2];split
  ·have hs:=swp_app d (l.take j) b (l.getD j d) m;rw[hlen]at hs;rw[hs,insE_app l m j (l.getD j d::b) (by omega),hx];have hk:=kR_le lt d l m j;rw[List.drop_append_of_le_length (by omega)];simp
  ·have:(l.take (j+1)).drop (j+1)=[]:=List.drop_eq_nil_of_le (by rw[QJ];omega);rw[this,hx];simp
theorem insE_still{xs:List α}{i:Nat}(h:lt (xs.getD i d) (xs.getD (i-1) d)=false):insE lt d xs i=xs:=by
 cases i with
 |zero=>rfl
 |succ j=>
  unfold insE;rw[Nat.add_sub_cancel]at h;rw[if_neg (by rw[h];exact Q3)]
theorem isort_app(l:List α)(m:α)(hs:∀i,i+1<l.length->lt (l.getD (i+1) d) (l.getD i d)=false):
  ∀(f i:Nat),1<=i->i+f=l.length+1->CS lt d f i (l++[m])=if f=0 then l++[m]else l.take (kR lt d l m l.length)++m::l.drop (kR lt d l m l.length)
 |0,i,_,_=>by simp[CS]
 |f+1,i,hi,h=>by
  rw[if_neg (Qm f)];unfold CS;by_cases hf:f=0
  ·subst hf;have:i=l.length:=by omega
   subst this;have:=insE_app lt d l m l.length [] (Qw _);simp only[List.take_length,QT]at this;unfold CS;exact this
  ·have hil:i<l.length:=by omega
   have g1:(l++[m]).getD i d=l.getD i d:=by simp[QU,Zg hil]
   have g2:(l++[m]).getD (i-1) d=l.getD (i-1) d:=by simp[QU,Zg (show i-1<l.length by omega)]
   rw[insE_still lt d (by rw[g1,g2];have:=hs (i-1) (by omega);rwa [show i-1+1=i by omega]at this),isort_app l m hs f (i+1) (by omega) (by omega),if_neg hf]
end
end Go.Vd
namespace Go.Vd
open Go.Proofs Go.RowKit
def m0t:Mt:=([],0,false)
def ltM(a b:Mt):Bool:=decide (FA a.1 b.1<0)
def RowM(i:Id)(m:Mem)(xs:List Mt):Prop:=∀j,j<xs.length->m i (j*3)=some (.str (xs.getD j m0t).1)∧m i (j*3+1)=some (.int .i64 (xs.getD j m0t).2.1)∧m i (j*3+2)=some (.bool (xs.getD j m0t).2.2)
structure RowI (i:Id) (m0 m:Mem) (xs:List Mt):Prop where
 row:RowM i m xs
 out:∀i' o,(i'≠i∨xs.length*3<=o)->m i' o=m0 i' o
theorem RowI.put{i:Id}{m0 m:Mem}{xs:List Mt}(h:RowI i m0 m xs){j:Nat}(hj:j<xs.length){p:Bs}{q:Int}{b:Bool}:RowI i m0 (m.put i (j*3) [.str p,.int .i64 q,.bool b]) (xs.set j (p,q,b)):=by
 refine⟨λk hk=>?_,λi' o ho=>?_⟩
 ·rw[Zp]at hk;by_cases e:k=j
  ·subst e;have hg:(xs.set k (p,q,b)).getD k m0t=(p,q,b):=by simp[QU,hk]
   rw[hg];refine⟨?_,?_,?_⟩
   ·rw[Ag,if_pos ⟨rfl,by omega,by simp⟩,Nat.sub_self];rfl
   ·rw[Ag,if_pos ⟨rfl,by omega,by simp⟩,show k*3+1-k*3=1 by omega];rfl
   ·rw[Ag,if_pos ⟨rfl,by omega,by simp⟩,show k*3+2-k*3=2 by omega];rfl
  ·have hg:(xs.set j (p,q,b)).getD k m0t=xs.getD k m0t:=by simp[QU,List.getElem?_set_ne (Ne.symm e)]
   rw[hg];have hn:∀d,d<3->¬(i=i∧j*3<=k*3+d∧k*3+d<j*3+[D.str p,.int .i64 q,.bool b].length):=by
    intro d hd;simp;omega
   obtain⟨a1,a2,a3⟩:=h.row k hk;exact⟨by rw[Ag,if_neg (by have:=hn 0 (by omega);rwa [Zn]at this)];exact a1,by rw[Ag,if_neg (hn 1 (by omega))];exact a2,by rw[Ag,if_neg (hn 2 (by omega))];exact a3⟩
 ·rw[Zp]at ho;rw[Ag,if_neg (by rintro⟨e,h1,h2⟩;simp at h2;rcases ho with ho|ho;exact ho e;omega)];exact h.out i' o ho
theorem RowI.swp{i:Id}{m0 m:Mem}{xs:List Mt}(h:RowI i m0 m xs){j:Nat}(hj:j+1<xs.length){x y:Mt}(hx:xs.getD j m0t=x)(hy:xs.getD (j+1) m0t=y):
  RowI i m0 ((m.put i ((j+1)*3) [.str x.1,.int .i64 x.2.1,.bool x.2.2]).put i (j*3) [.str y.1,.int .i64 y.2.1,.bool y.2.2]) (Go.Vd.swp m0t xs j):=by
 unfold Go.Vd.swp;rw[hx,hy];exact(h.put (j:=j+1) hj).put (by rw[Zp];omega)
theorem h108(a b:Mt):F108 [mtD a,mtD b]=some (.int .i64 (FA a.1 b.1)):=rfl
theorem loop302i{S:Summs}{fr i:Id}{n:Nat}{m0:Mem}{i8:Nat}{Q:Ex->St->Prop}(s108:S 108=some (Ac F108))(hn:n<=1000):
  ∀(j:Nat)(xs:List Mt) st g,xs.length=n->j<n->st.s 0= .row i n->st.s 1= .int .i64 0->st.s 2= .int .i64 (n:Int)->st.s 3= .fn 108 []->st.s 8= .int .i64 (i8:Int)->st.s 9= .int .i64 (j:Int)->RowI i m0 st.m xs->
   (∀st',st'.s 0= .row i n->st'.s 1= .int .i64 0->st'.s 2= .int .i64 (n:Int)->st'.s 3= .fn 108 []->st'.s 8= .int .i64 (i8:Int)->RowI i m0 st'.m (insE ltM m0t xs j)->Q (.exit 2) st')->A6 S fr dc302l0 Q st g:=by
 intro j;induction j with
 |zero=>
  intro xs st g hl hj h0 h1 h2 h3 h8 h9 I hex;refine Af dc302l0.eq_1 ?_;have hgt:¬((0:Int)<((0:Nat):Int)):=by omega
  simp only[↓go1,go2,go4,reduceIte,simprocAttr,h1,h9,hgt];refine An.intro (Aj rfl) ?_;simp only[↓go1,go2,reduceIte,Qa];exact hex _ h0 h1 h2 h3 h8 I
 |succ j ih=>
  intro xs st g hl hj h0 h1 h2 h3 h8 h9 I hex;refine Af dc302l0.eq_1 ?_;have hgt:((0:Int)<((j+1:Nat):Int)):=by omega
  have w1:IntKind.i64.wrap (((j+1:Nat):Int)-1)=(j:Int):=by rw[w64 (by omega) (by omega)];omega
  have hj0:(0:Int)<=(j:Int):=by omega
  have hj1:(0:Int)<=((j+1:Nat):Int):=by omega
  have hjn:((j:Int)<(n:Int)):=by omega
  have hj1n:(((j+1:Nat):Int)<(n:Int)):=by omega
  have bn:(3=1)=False:=by simp
  obtain⟨a0,a1,a2⟩:=I.row j (by omega);obtain⟨b0,b1,b2⟩:=I.row (j+1) (by omega);obtain⟨x,hx⟩:∃x,xs.getD j m0t=x:=⟨_,rfl⟩;obtain⟨y,hy⟩:∃y,xs.getD (j+1) m0t=y:=⟨_,rfl⟩;have hst:=hex;unfold insE at hst;have hlt:ltM (xs.getD (j+1) m0t) (xs.getD j m0t)=decide (FA (xs.getD (j+1) m0t).1 (xs.getD j m0t).1<0):=rfl;rw[hlt]at hst;rw[hx]at a0 a1 a2 hst;rw[hy]at b0 b1 b2 hst;clear hlt;have hc:=h108 y x;simp only[mtD]at hc;obtain⟨st_s,st_m,st_c⟩:=st;simp only at h0 h1 h2 h3 h8 h9 a0 a1 a2 b0 b1 b2 I;by_cases hlt:FA y.1 x.1<0
  ·rw[if_pos (by simpa using hlt)]at hst;have q1:((j+1)*3<=j*3)=False:=eq_false (by omega);have q2:((j+1)*3<=j*3+1)=False:=eq_false (by omega);have q3:((j+1)*3<=j*3+1+1)=False:=eq_false (by omega);have hlt':decide (FA y.1 x.1<0)=true:=by simpa using hlt
   simp only[↓go1,gB3,reduceIte,simprocAttr,h0,h1,h3,h9,hgt,hj0,hj1,hjn,hj1n,w1,bn,Qf,a0,a1,a2,b0,b1,b2,hlt,Aa s108,hc,Ao,Ap,and_self,Qe];refine An.intro (Aj rfl) ?_;simp only[↓go1,gB2,reduceIte,simprocAttr,h0,h9,hj0,hj1,hjn,hj1n,w1,bn,Qf,a0,a1,a2,b0,b1,b2,q1,q2,q3,false_and,and_false,Ag,Ao,Ap,and_self,Qe,Qk];refine An.intro (Aj rfl) ?_;simp only[↓go1,go2,reduceIte,simprocAttr,h9,w1,bn];refine ih _ _ _ (by rw[swp_len];exact hl) (by omega) h0 h1 h2 h3 h8 rfl ?_ hst;exact I.swp (by omega) hx hy
  ·rw[if_neg (by simpa using hlt)]at hst;simp only[↓go1,gB3,reduceIte,simprocAttr,h0,h1,h3,h9,hgt,hj0,hj1,hjn,hj1n,w1,bn,Qf,a0,a1,a2,b0,b1,b2,hlt,Aa s108,hc,Ao,Ap,and_self,Qe];refine An.intro (Aj rfl) ?_;simp only[↓go1,go2,reduceIte,Qa,bn];exact hst _ h0 h1 h2 h3 h8 I
theorem loop302o{S:Summs}{fr i:Id}{n:Nat}{m0:Mem}{Q:Ex->St->Prop}(s108:S 108=some (Ac F108))(hn:n<=1000){zs:List Mt}
  (hexit:∀st,RowI i m0 st.m zs->Q (.exit 0) st):
  ∀(f k:Nat)(xs:List Mt) st g,xs.length=n->k+f=n->CS ltM m0t f k xs=zs->st.s 0= .row i n->st.s 1= .int .i64 0->st.s 2= .int .i64 (n:Int)->st.s 3= .fn 108 []->st.s 8= .int .i64 (k:Int)->RowI i m0 st.m xs->
   A6 S fr dc302l1 Q st g:=by
 intro f;induction f with
 |zero=>
  intro k xs st g hl hk hz h0 h1 h2 h3 h8 I;refine Af dc302l1.eq_1 ?_;have:¬((k:Int)<n):=by omega
  simp only[↓go1,go2,go4,reduceIte,simprocAttr,h2,h8,this];exact hexit _ (by rw[←hz];exact I)
 |succ f ih=>
  intro k xs st g hl hk hz h0 h1 h2 h3 h8 I;refine Af dc302l1.eq_1 ?_;have hlt:((k:Int)<n):=by omega
  have hw:IntKind.i64.wrap ((k:Int)+1)=((k+1:Nat):Int):=w64 (by omega) (by omega);simp only[↓go1,go2,go4,reduceIte,simprocAttr,h2,h8,hlt];refine loop302i (i8:=k) (m0:=m0) s108 hn k xs _ _ hl (by omega) h0 h1 h2 h3 h8 rfl I (λst' g0 g1 g2 g3 g8 I'=>?_);simp only[↓go1,go2,reduceIte,simprocAttr,g8,hw];exact ih (k+1) _ _ _ (by rw[insE_len];exact hl) (by omega) hz g0 g1 g2 g3 rfl I'
def rowR(m:Mem)(i:Id):Nat->Nat->Option (List Mt)
 |0,_=>some []
 |f+1,j=>match m i (j*3),m i (j*3+1),m i (j*3+2),rowR m i f (j+1)with
  |some (.str p),some (.int .i64 q),some (.bool b),some l=>some ((p,q,b)::l)
  |_,_,_,_=>none
theorem rowR_some{m:Mem}{i:Id}:∀{f j:Nat} {xs:List Mt},rowR m i f j=some xs->xs.length=f∧∀k,k<f->m i ((j+k)*3)=some (.str (xs.getD k m0t).1)∧m i ((j+k)*3+1)=some (.int .i64 (xs.getD k m0t).2.1)∧m i ((j+k)*3+2)=some (.bool (xs.getD k m0t).2.2)
 |0,j,xs,h=>by
  simp only[rowR,Qc]at h;subst h;exact⟨rfl,λk hk=>absurd hk (Nat.not_lt_zero _)⟩
 |f+1,j,xs,h=>by
  unfold rowR at h;split at h
  ·rename_i p q b l e1 e2 e3 e4;simp only[Qc]at h;subst h;obtain⟨r1,r2⟩:=rowR_some e4;refine⟨by simp[r1],λk hk=>?_⟩;cases k with
   |zero=>exact⟨e1,e2,e3⟩
   |succ k=>
    have:=r2 k (by omega);rw[show j+1+k=j+(k+1)by omega]at this;exact this
  ·cases h
theorem rowR_loc{m m':Mem}{i:Id}:∀{f j n:Nat},j+f<=n->(∀o,o<n*3->m i o=m' i o)->rowR m i f j=rowR m' i f j
 |0,j,n,_,_=>rfl
 |f+1,j,n,hn,h=>by
  unfold rowR;rw[h (j*3) (by omega),h (j*3+1) (by omega),h (j*3+2) (by omega),rowR_loc (f:=f) (j:=j+1) (by omega) h]
theorem rowR_of{m:Mem}{i:Id}{xs:List Mt}(h:∀j d,(flat (Ar xs))[j]?=some d->m i j=some d):rowR m i xs.length 0=some xs:=by
 have key:∀(ys pre:List Mt),pre++ys=xs->rowR m i ys.length pre.length=some ys:=by
  intro ys;induction ys with
  |nil=>intro pre _;rfl
  |cons y r ih=>
   intro pre hp;have hsz:∀x∈Ar xs,x.cells.length=3:=λx hx=>by obtain⟨z,_,rfl⟩:=QC.1 hx;rfl
   have hlt:pre.length<(Ar xs).length:=by rw[Aw,←hp];simp
   have hg:(Ar xs)[pre.length]=mtD y:=by simp[Ar,←hp]
   have e0:=h _ _ ((DP hsz hlt (j:=0) (by omega)).trans (by rw[hg];rfl));have e1:=h _ _ ((DP hsz hlt (j:=1) (by omega)).trans (by rw[hg];rfl));have e2:=h _ _ ((DP hsz hlt (j:=2) (by omega)).trans (by rw[hg];rfl));have:=ih (pre++[y]) (by rw[←hp];simp);rw[Qr]at this;rw[Zn]at e0;have this:rowR m i r.length (pre.length+1)=some r:=this;simp only[Qt,rowR,e0,e1,e2,this]
 exact key xs [] rfl
def sortU(m:Mem)(i:Id)(n:Nat):Option (D×Upd):=if n<=12∧1<=n then(rowR m i n 0).map λxs=>(.tup [],[(i,0,flat (Ar (CS ltM m0t (n-1) 1 xs)))])else none
def Eh(sh:List D->Option (Id×Nat)):Summ where
 rd:=λds _=>match sh ds with
  |some (i,n)=>(List.range (n*3)).map λo=>(i,o)
  |none=>[]
 ex:=λds m _=>match sh ds with
  |some (i,n)=>sortU m i n
  |none=>none
theorem sortQ_loc(sh:List D->Option (Id×Nat)):∀ds m m' fr,(∀l∈(Eh sh).rd ds m,m l.1 l.2=m' l.1 l.2)->(Eh sh).ex ds m fr=(Eh sh).ex ds m' fr:=by
 intro ds m m' fr h;simp only[Eh]at h ⊢;cases hs:sh ds with
 |none=>rfl
 |some p=>
  obtain⟨i,n⟩:=p;simp only[hs]at h ⊢;unfold sortU;split
  ·rw[rowR_loc (m:=m) (m':=m') (n:=n) (by omega) λo ho=>h (i,o) (QC.2 ⟨o,by simpa using ho,rfl⟩)]
  ·rfl
theorem sortQ_some{sh:List D->Option (Id×Nat)}{ds:List D}{m:Mem}{fr:Id}{r:D}{u:Upd}(h:(Eh sh).ex ds m fr=some (r,u)):
  ∃i n xs,sh ds=some (i,n)∧n<=12∧1<=n∧rowR m i n 0=some xs∧xs.length=n∧RowI i m m xs∧r= .tup []∧u=[(i,0,flat (Ar (CS ltM m0t (n-1) 1 xs)))]:=by
 simp only[Eh]at h;cases hs:sh ds with
 |none=>rw[hs]at h;cases h
 |some p=>
  obtain⟨i,n⟩:=p;simp only[hs]at h;unfold sortU at h;split at h
  ·rename_i hc;rw[QB]at h;obtain⟨xs,hx,h⟩:=h;simp only[QQ]at h;obtain⟨rfl,rfl⟩:=h;obtain⟨r1,r2⟩:=rowR_some hx;exact⟨i,n,xs,rfl,hc.1,hc.2,hx,r1,⟨λj hj=>by have:=r2 j (by omega);rwa [QF]at this,λ_ _ _=>rfl⟩,rfl,rfl⟩
  ·cases h
theorem RowI.fin{i:Id}{m0 m:Mem}{xs:List Mt}(h:RowI i m0 m xs):∀i' o x,(m0.put i 0 (flat (Ar xs))) i' o=some x->m i' o=some x:=by
 intro i' o x hx;have hsz:∀x∈Ar xs,x.cells.length=3:=λx hx=>by obtain⟨z,_,rfl⟩:=QC.1 hx;rfl
 have hfl:=BQ hsz;rw[Aw]at hfl;rw[Ag]at hx;split at hx
 ·rename_i hc;obtain⟨rfl,_,ho⟩:=hc;rw[Qq]at hx;have hk:o / 3<xs.length:=by omega
  have hlt:o / 3<(Ar xs).length:=by rw[Aw];exact hk
  have hg:(Ar xs)[o / 3]=mtD (xs.getD (o / 3) m0t):=by simp[Ar,Qg hk]
  obtain⟨a0,a1,a2⟩:=h.row (o / 3) hk;have hj:o % 3<3:=Nat.mod_lt _ (by omega);have e:o / 3*3+o % 3=o:=by omega
  have:=DP hsz hlt hj;rw[e,hx,hg]at this;have h3:o % 3=0∨o % 3=1∨o % 3=2:=by omega
  rcases h3 with h3|h3|h3
  ·rw[h3]at this e;rw[Zn]at e;rw[←e,a0,this];rfl
  ·rw[h3]at this e;rw[←e,a1,this];rfl
  ·rw[h3]at this e;rw[←e,a2,this];rfl
 ·rename_i hc;rw[←hx];refine h.out i' o ?_;by_cases e:i'=i
  ·right;rcases Zu o (xs.length*3)with hl|hl
   ·exact absurd ⟨e,Ql _,by omega⟩ hc
   ·exact hl
  ·exact .inl e
def sh302:List D->Option (Id×Nat)
 |[.row i n,.int .i64 0,.int .i64 k,.fn 108 []]=>if k=(n:Int)then some (i,n)else none
 |_=>none
theorem ok302:(Eh sh302).ok Qd 302:=by
 obtain⟨S,hS,hl⟩:=A5 (Ab ok108 Ad);have s108:=hl 108 _ rfl;clear hl;refine opn_ok hS fn302 (sortQ_loc _) (λds m fr r u hex hfr=>?_);obtain⟨i,n,xs,hsh,hn,hn1,hr,hl,I,rfl,rfl⟩:=sortQ_some hex;unfold sh302 at hsh;split at hsh
 ·split at hsh
  ·rename_i hk;simp only[Qc,QQ]at hsh;obtain⟨rfl,rfl⟩:=hsh;subst hk;refine⟨by simp,?_⟩;rename_i i n;have hw:IntKind.i64.wrap ((0:Int)+1)=((1:Nat):Int):=rfl;unfold dc302;simp only[↓go1,go2,reduceIte,simprocAttr,hw];refine loop302o (m0:=m) (zs:=CS ltM m0t (n-1) 1 xs) s108 (by omega) (λst' I'=>?_) (n-1) 1 xs _ _ hl (by omega) rfl rfl rfl rfl rfl rfl I;simp only[↓go1,go2,go4,reduceIte];exact I'.fin
  ·cases hsh
 ·cases hsh
def sh208:List D->Option (Id×Nat)
 |[.row i n,.int .i64 0,.int .i64 k,.int .i64 _,.fn 108 []]=>if k=(n:Int)then some (i,n)else none
 |_=>none
theorem ok208:(Eh sh208).ok Qd 208:=by
 obtain⟨S,hS,hl⟩:=A5 (Ab ok302 Ad);have s302:=hl 302 _ rfl;clear hl;refine opn_ok hS fn208 (sortQ_loc _) (λds m fr r u hex hfr=>?_);obtain⟨i,n,xs,hsh,hn,hn1,hr,hl,I,rfl,rfl⟩:=sortQ_some hex;unfold sh208 at hsh;split at hsh
 ·split at hsh
  ·rename_i hk;simp only[Qc,QQ]at hsh;obtain⟨rfl,rfl⟩:=hsh;subst hk;refine⟨by simp,?_⟩;rename_i i n _;have hw:IntKind.i64.wrap ((n:Int)-0)=(n:Int):=by rw[w64 (by omega) (by omega)];omega
   have hle:((n:Int)<=12):=by omega
   have hg:∀fr,(Eh sh302).ex ([.row i n,.int .i64 0,.int .i64 (n:Int),.fn 108 []]++[]) m fr=some (.tup [],[(i,0,flat (Ar (CS ltM m0t (n-1) 1 xs)))]):=by
    intro fr;simp only[Eh,sh302,QT,if_true,sortU,hn,hn1,and_self,hr,QN]
   unfold dc208;simp only[↓go1,go2,Qb];refine Af dc208l0.eq_1 ?_;simp only[↓go1,go2,go4,reduceIte,simprocAttr,hw,hle];rw[Ah s302];refine Got.intro (hg _) ?_;simp only[↓go1,go2,go4];exact λ_ _ _ h=>h
  ·cases hsh
 ·cases hsh
def R311:List D->Option D:=funRun (λ_=>none) 25 dc311 [.t 2] 60
theorem ok311:(Ac R311).ok Qd 311:=funRun_ok AL fn311 60
def R209:List D->Option D:=funRun (AF [(311,Ac R311)]) 8 dc209 [.t 2] 60
theorem ok209:(Ac R209).ok Qd 209:=funRun_ok (Ab ok311 Ad) fn209 60
def isI:Option D->Bool
 |some (.int .i64 _)=>true
 |_=>false
theorem R209_all:(List.range 13).all (λn=>isI (R209 [.int .u64 (n:Nat)]))=true:=by kernel_rfl
theorem R209_get{n:Nat}(h:n<=12):∃k,R209 [.int .u64 (n:Nat)]=some (.int .i64 k):=by
 have:=Qx.1 R209_all n (by simp;omega);generalize R209 [.int .u64 (n:Nat)]=r at this;unfold isI at this;split at this
 ·exact⟨_,rfl⟩
 ·cases this
def sh107:List D->Option (Id×Nat)
 |[.row i n,.fn 108 []]=>some (i,n)
 |_=>none
theorem ok107:(Eh sh107).ok Qd 107:=by
 obtain⟨S,hS,hl⟩:=A5 (Ab ok209 (Ab ok208 Ad));have s209:=hl 209 _ rfl;have s208:=hl 208 _ rfl;clear hl;refine opn_ok hS fn107 (sortQ_loc _) (λds m fr r u hex hfr=>?_);obtain⟨i,n,xs,hsh,hn,hn1,hr,hl,I,rfl,rfl⟩:=sortQ_some hex;unfold sh107 at hsh;split at hsh
 ·simp only[Qc,QQ]at hsh;obtain⟨rfl,rfl⟩:=hsh;refine⟨by simp,?_⟩;rename_i i n;have hw:IntKind.u64.wrap ((n:Nat):Int)=((n:Nat):Int):=by simp only[IntKind.wrap,IntKind.signed,IntKind.bits,Zd,Ze,if_false];omega
  obtain⟨k,hk⟩:=R209_get hn;have hg:∀fr,(Eh sh208).ex ([.row i n,.int .i64 0,.int .i64 (n:Int),.int .i64 k,.fn 108 []]++[]) m fr=some (.tup [],[(i,0,flat (Ar (CS ltM m0t (n-1) 1 xs)))]):=by
   intro fr;simp only[Eh,sh208,QT,if_true,sortU,hn,hn1,and_self,hr,QN]
  unfold dc107;simp only[↓go1,gB3,reduceIte,simprocAttr,hw,Aa s209,hk];rw[Ah s208];refine Got.intro (hg _) ?_;simp only[↓go1,go2,go4];exact λ_ _ _ h=>h
 ·cases hsh
theorem fn106':Fn Qd 106 36 (Fz 9 124 3 32 207) [.t 2]:=fn106
theorem own106:(ownS λds=>(FcatG 3 ds).bind λys=>if(flat ys).all D.plain=true then some ys else none).ok Qd 106:=cat_own fn106' (by omega) ok207
def FC:List D->Option (List D):=λds=>(FcatG 3 ds).bind λys=>if(flat ys).all D.plain=true then some ys else none
theorem mtsD_plain(l:List Mt):(flat (Ar l)).all D.plain=true:=by
 induction l with
 |nil=>rfl
 |cons m r ih=>simp only[Ar,Q1,flat,mtD,D.cells,Za,Zj,QP,D.plain,Bool.and_self,Bool.true_and];exact ih
theorem mtsD_append(a b:List Mt):Ar (a++b)=Ar a++Ar b:=Zo
theorem mtsD_sz(l:List Mt):(Ar l).all (szB 3)=true:=by rw[Qx];intro x hx;obtain⟨y,_,rfl⟩:=QC.1 hx;rfl
theorem FC_eq{l:List Mt}{m:Mt}{nl:Bool}(hl:l.length<=1000):FC [.slice false [] [.slice nl [] (Ar l),.slice false [] [mtD m]]]=some (Ar (l++[m])):=by
 have hc:Ec [.slice nl [] (Ar l),.slice false [] [mtD m]]=some (Ar (l++[m])):=by
  simp only[Ec,QN,QT,mtsD_append];rfl
 have hlen:(Ar (l++[m])).length=l.length+1:=by rw[Aw,Qr];rfl
 simp only[FC,FcatG,hc];rw[if_pos ⟨by simp,by omega,by omega,mtsD_sz _⟩,Qe,if_pos (mtsD_plain _)]
def Fb(l:List Mt)(m:Mt):Option (List Mt)×Int:=
 if CR m.1 m.2.1≠0 then(none,CR m.1 m.2.1)else if 0<=BR l m.1 then(none,20)else if En m.1 (l.map (·.1))=true then(none,15)else if 4<=l.length then(none,24)
 else(some (CS ltM m0t l.length 1 (l++[m])),0)
def tabD(nl:Bool)(l:List Mt)(o:Option (List Mt)):D:=match o with
 |none=> .agg [.slice nl [] (Ar l)]
 |some l'=> .agg [.slice false [] (Ar l')]
open Classical in
def F45:List D->Option D
 |[.agg [.slice nl _ xs],.agg [.str p,.int .i64 q,.bool b]]=>if mtsOk nl xs∧xs.length<=1000∧p.length<=1000000 then some (.tup [tabD nl (B7 xs) (Fb (B7 xs) (p,q,b)).1,.int .i64 (Fb (B7 xs) (p,q,b)).2])else none
 |_=>none
open Classical in
theorem F45_eq{nl:Bool}{t:Id}{l:List Mt}{m:Mt}(hl:l.length<=1000)(hn:nl=true->l=[])(hp:m.1.length<=1000000):F45 [.agg [.slice nl t (Ar l)],mtD m]=some (.tup [tabD nl l (Fb l m).1,.int .i64 (Fb l m).2]):=by
 have h:mtsOk nl (Ar l)∧(Ar l).length<=1000∧m.1.length<=1000000:=⟨mtsOk_mk (by omega) hn,by rw[Aw];exact hl,hp⟩;show(if _ then _ else _)=_;rw[if_pos h,Bf]
theorem row_data{i:Id}{n:Nat}:(D.row i n).data=true:=rfl
theorem row_cells{i:Id}{n:Nat}:(D.row i n).cells=[.row i n]:=rfl
theorem mtsD_calmR(nl:Bool)(l:List Mt)(o:Option (List Mt))(e:Int):(D.tup [tabD nl l o,.int .i64 e]).calmR=true:=by
 cases o<;>rfl
theorem ok45:(Ac F45).ok Qd 45:=by
 obtain⟨S,hS,hl⟩:=A5 (Ab ok102 (Ab ok103 (Ab ok104 (Ab ok105 (Ab own106 (Ab ok107 Ad))))));have s102:=hl 102 _ rfl;have s103:=hl 103 _ rfl;have s104:=hl 104 _ rfl;have s105:=hl 105 _ rfl;have s106:=hl 106 _ rfl;have s107:=hl 107 _ rfl;clear hl;refine fun_set hS fn45 (λds r h=>?_) (λds r h=>?_)
 ·unfold F45 at h;split at h
  ·simp
  ·cases h
 ·unfold F45 at h;split at h
  ·rename_i nl t xs p q b;split at h
   ·rename_i hc;obtain⟨hc,hlen,hp⟩:=hc;obtain⟨l,rfl,hl,hn,e⟩:=mtsOk_get hc;rw[e]at h;rw[Aw]at hlen;simp only[Qc]at h;subst h;refine⟨mtsD_calmR ..,?_⟩;have h102:F102 [.agg [.str p,.int .i64 q,.bool b]]=some (.int .i64 (CR p q)):=if_pos hp;have h103:=F103_eq (nl:=nl) (t:=[]) (p:=p) hl;have h105:=F105_eq (nl:=nl) (t:=t) hl;have h104:=F104_eq (s:=p) (nl:=false) (t:=[]) (l:=l.map (·.1)) (by simpa using hl);have hown:∀mm fr,(ownS FC).ex [D.slice false [30] [D.slice nl [] (Ar l),D.slice false [] [D.agg [D.str p,D.int IntKind.i64 q,D.bool b]]]] mm fr=some (.row fr (l.length+1),[(fr,0,flat (Ar (l++[(p,q,b)])))]):=by
     intro mm fr;have h1:FC ([D.slice false [30] [D.slice nl [] (Ar l),D.slice false [] [D.agg [D.str p,D.int IntKind.i64 q,D.bool b]]]].map D.un)=some (Ar (l++[(p,q,b)])):=FC_eq (m:=(p,q,b)) hlen;simp only[ownS,h1];refine(if_pos rfl).trans ?_;rw[QN,Aw,Qr];rfl
    have hsort:l.length<4->∀mm fr,(∀(j:Nat) d,(flat (Ar (l++[(p,q,b)])))[j]?=some d->mm [31] j=some d)->(Eh sh107).ex [.row [31] (l.length+1),.fn 108 []] mm fr=some (.tup [],[([31],0,flat (Ar (CS ltM m0t l.length 1 (l++[(p,q,b)]))))]):=by
     intro hl4 mm fr hm;have hr:=rowR_of hm;rw[Qr]at hr;simp only[Eh,sh107,sortU];rw[if_pos ⟨by omega,by omega⟩,show l.length+1=l.length+[(p,q,b)].length from rfl,hr];rfl
    unfold dc45 Fb;simp only;generalize CR p q=e1 at *;generalize BR l p=e2 at *;generalize En p (l.map (·.1))=e3 at *;by_cases he:e1=0
    ·subst he;by_cases he2:0<=e2
     ·simp only[↓go1,gB0,reduceIte,simprocAttr,Aa s102,h102,Aa s103,h103,ne_eq,Ag,Ao,Ap,Qe,Qk,Qi,Qn,and_false,Qm,AY,Bc,he2];exact .inr ⟨_,_,rfl,rfl,.inl (.inl rfl),.inl (.inl rfl),trivial⟩
     ·cases e3 with
      |true=>
       simp only[↓go1,gB0,reduceIte,simprocAttr,Aa s102,h102,Aa s103,h103,Aa s104,h104,Ah s105,rowS,h105,ne_eq,Ag,Ao,Ap,Qe,Qi,Qn,and_false,Qm,he2];refine An.intro (Aj rfl) ?_;simp only[↓go1,gB2,go4,reduceIte,simprocAttr,Ag,Ao,Ap,Ql,Qq,Qh,and_self,Qe,Qk,Qi,Qn,Qm,AY,Bc,he2];exact .inr ⟨_,_,rfl,rfl,.inl (.inl rfl),.inl (.inl rfl),trivial⟩
      |false=>
       by_cases h4:4<=l.length
       ·have h4':(4:Int)<=(l.length:Int):=by omega
        simp only[↓go1,gB0,reduceIte,simprocAttr,Aa s102,h102,Aa s103,h103,Aa s104,h104,Ah s105,rowS,h105,ne_eq,Ag,Ao,Ap,Qe,Qi,Qn,and_false,Qm,he2];refine An.intro (Aj rfl) ?_;simp only[↓go1,gB2,go4,reduceIte,simprocAttr,Aw,Ag,Ao,Ap,Ql,Qq,Qh,and_self,Qe,Qk,Qi,Qn,Qm,AY,Bc,he2,h4',h4];exact .inr ⟨_,_,rfl,rfl,.inl (.inl rfl),.inl (.inl rfl),trivial⟩
       ·have h4':¬(4:Int)<=(l.length:Int):=by omega
        simp only[↓go1,gB0,reduceIte,simprocAttr,Aa s102,h102,Aa s103,h103,Aa s104,h104,Ah s105,rowS,h105,ne_eq,Ag,Ao,Ap,Qe,Qi,Qn,and_false,Qm,he2];refine An.intro (Aj rfl) ?_;simp only[↓go1,gB0,reduceIte,simprocAttr,Ah s106,Aw,Ag,Ao,Ap,Qe,Qi,Qn,and_false,Qm,h4'];refine Got.intro (hown _ _) ?_;simp only[↓go1,gB3,reduceIte,simprocAttr,Ah s107];refine Got.intro (hsort (by omega) _ _ (λj d hd=>?_)) ?_
        ·rw[Ag,if_pos ⟨rfl,Ql _,by rw[QF];exact(Qy.1 hd).1⟩];exact hd
        simp only[↓go1,gB2,go4,reduceIte,simprocAttr,row_data,row_cells,BH,CW,Ag,Ao,Ap,Ql,Qq,Qh,and_self,Qe,Qu,Qk,Qj,Qs,Qi,false_and,Qm,AY,Bc,he2,h4];refine .inr ⟨_,_,rfl,rfl,.inr ⟨_,_,rfl,rfl,.inr ⟨[31],_,3,?_,rfl,?_,?_⟩,trivial⟩,.inl (.inl rfl),trivial⟩
        ·rw[Aw,FO,Qr];rfl
        ·intro x hx;obtain⟨y,_,rfl⟩:=QC.1 hx;exact⟨rfl,rfl⟩
        ·intro j x hx;rw[Mem.put_other (by decide),Ag,if_pos ⟨rfl,Ql _,by rw[QF];exact(Qy.1 hx).1⟩];exact hx
    ·simp only[↓go1,gB0,reduceIte,simprocAttr,Aa s102,h102,ne_eq,Ag,Ao,Ap,Qe,Qk,Qi,Qn,and_false,Qm,AY,Bc,he];exact .inr ⟨_,_,rfl,rfl,.inl (.inl rfl),.inl (.inl rfl),trivial⟩
   ·cases h
  ·cases h
end Go.Vd
namespace Go.Vd
open Go.Proofs
def dc248l0:DC:=(sr [bt 12 .lss 11 10] (.seq (cd 12 .skip (.exit 0)) (.seq (.block 1 (sr [ii 13 3 9 11,lk 14 3 13,oo 7 (.alloc [(.str []),(.int .i64 0),(.bool false)]),oz (.store 3 (.t 7) (.t 14))] (sr [mm 15 1,ff 16 0 7,ll 17 16,cc 18 301 [(.t 15),(.t 17)]] (cd 18 (sr [lk 19 3 7,oz (.store 3 (.t 4) (.t 19)),ci 5 0] .ret) .skip)))) (.row [bi 20 .add 11 1,mm 11 20]))))
def dc248:DC:=(sr [oo 2 (.box (.t 0)),oo 4 (.alloc [(.str []),(.int .i64 0),(.bool false)]),ci 5 0] (.seq (sr [ff 8 0 2,ll 9 8,nn 10 false 9,ci 11 0] (.block 0 (.loop dc248l0))) (sr [oo 21 (.build [(.str []),(.int .i64 0),(.bool false)] []),oz (.store 3 (.t 4) (.t 21)),ci 5 14] .ret)))
theorem fn248:Fn Qd 248 22 dc248 [.cell (some 3) 4,.t 5]:=Am func248
def dc159:DC:=(sr [oo 2 (.box (.t 0)),cb 4 false] (sr [ff 8 3 2,lk 9 1 8,mm 10 1,cc 11 248 [(.t 9),(.t 10)],mm 7 11,xx 12 0 7,xx 13 1 7,oo 5 (.alloc [(.str []),(.int .i64 0),(.bool false)]),oz (.store 3 (.t 5) (.t 12)),mm 6 13] (sr [mm 14 6,bi 15 .eql 14 0,mm 4 15] .ret)))
theorem fn159:Fn Qd 159 16 dc159 [.t 4]:=Am func159
def dc47l0:DC:=(.seq (sr [mm 21 8,mm 22 0,nn 23 false 22,bt 24 .lss 21 23] (cd 24 .skip (.exit 0))) (.seq (.block 1 (.seq (.seq (.drawn [mm 27 0,mm 28 8,ii 29 3 27 28,ff 30 0 29,ll 31 30,ff 32 0 3,ll 33 32,cc 34 111 [(.t 31),(.t 33)],mm 35 34,og 36 (.faddr 0 (.t 3)) 8 false,og 37 (.load none (.t 36)) 8 false,og 38 (.mv (.t 0)) 8 false,og 39 (.mv (.t 8)) 8 false,og 40 (.iaddr 3 (.t 38) (.t 39)) 8 false,og 41 (.faddr 0 (.t 40)) 8 false,og 42 (.load none (.t 41)) 8 false,og 43 (.call (.c (.fn 111 [])) [(.t 37),(.t 42)]) 8 false,oo 44 (.pick (.t 35) (.c (.bool true)) (.t 43))] []) (cd 44 (sr [mm 45 0,mm 4 45,ci 5 15] .ret) .skip)) (.seq (.drawn [mm 46 0,mm 47 8,ii 48 3 46 47,ff 49 0 48,ll 50 49,ff 51 0 3,ll 52 51,bt 53 .lss 50 52] []) (cd 53 (.row [mm 54 8,bi 55 .add 54 1,mm 7 55]) .skip)))) (.row [mm 25 8,bi 26 .add 25 1,mm 8 26])))
def dc47:DC:=(sr [oo 3 (.box (.t 1)),oo 4 (.mv (.c (.slice true [] []))),ci 5 0] (sr [lk 9 3 3,cc 10 110 [(.t 9)],mm 6 10] (.seq (sr [mm 11 6,bi 12 .neq 11 0] (cd 12 (sr [mm 13 0,mm 14 6,mm 4 13,mm 5 14] .ret) .skip)) (.seq (sr [mm 15 0,ff 16 0 3,ll 17 16,cc 18 74 [(.t 15),(.t 17)],bi 19 .geq 18 0] (cd 19 (sr [mm 20 0,mm 4 20,ci 5 20] .ret) .skip)) (sr [ci 7 0] (.seq (sr [ci 8 0] (.block 0 (.loop dc47l0))) (.seq (sr [mm 56 0,nn 57 false 56,bi 58 .geq 57 4] (cd 58 (sr [mm 59 0,mm 4 59,ci 5 24] .ret) .skip)) (.seq (.drawn [oo 60 (.bslice 118 3 []),mm 61 0,mm 62 7,oo 63 (.cutl 3 (.t 61) none (some (.t 62))),oo 64 (.app 118 3 32 (.t 60) (.t 63)),lk 65 3 3,oo 66 (.bslice 118 3 [(.t 65)]),oo 67 (.app 118 3 32 (.t 64) (.t 66)),mm 68 0,mm 69 7,oo 70 (.cutl 3 (.t 68) (some (.t 69)) none),oo 71 (.app 118 3 32 (.t 67) (.t 70)),mm 4 71,ci 5 0] [(0,5),(4,5),(4,6),(6,4)]) .ret))))))))
theorem fn47:Fn Qd 47 72 dc47 [.t 4,.t 5]:=Am func47
end Go.Vd
namespace Go.Vd
open Go.Proofs Go.RowKit
theorem loop248{S:Summs}{l:List Mt}{p:Bs}{nl:Bool}{t:Id}{Q:Ex->St->Prop}(hb:l.length<=1000000)(s301:S 301=some (Ac F301))
  (hret:∀st (m:Mt),Ch l p≠-1->m=Bk l (Ch l p).toNat->st.s 4= .ptr [1] 0->st.s 5= .int .i64 0->st.m [1] 0=some (.str m.1)->st.m [1] 1=some (.int .i64 m.2.1)->st.m [1] 2=some (.bool m.2.2)->Q .ret st)
  (hexit:∀st a b c,Ch l p=-1->st.s 4= .ptr [1] 0->st.m [1] 0=some a->st.m [1] 1=some b->st.m [1] 2=some c->Q (.exit 0) st):
  ∀(f j:Nat) st g a b c,l.length=j+f->(∀i,i<j->(l.map λm=>B9 p m.1)[i]?=some false)->2<=st.c->st.s 1= .str p->st.s 4= .ptr [1] 0->st.s 9= .slice nl t (Ar l)->st.s 10= .int .i64 (l.length:Int)->st.s 11= .int .i64 (j:Int)->
   st.m [1] 0=some a->st.m [1] 1=some b->st.m [1] 2=some c->A6 S [] dc248l0 Q st g:=by
 intro f;induction f with
 |zero=>
  intro j st g a b c hf hall hc h1 h4 h9 h10 h11 hm0 hm1 hm2;refine Af dc248l0.eq_1 ?_;have hlt:¬((j:Int)<l.length):=by omega
  simp only[↓go1,go2,go4,reduceIte,Qb,h10,h11,hlt];exact hexit _ a b c (firstT_none (by rw[Qv];intro i hi;exact hall i (by omega))) h4 hm0 hm1 hm2
 |succ f ih=>
  intro j st g a b c hf hall hc h1 h4 h9 h10 h11 hm0 hm1 hm2;refine Af dc248l0.eq_1 ?_;have hj:j<l.length:=by omega
  have hlt:((j:Int)<l.length):=by omega
  have hj0:(0:Int)<=(j:Int):=by omega
  have hw:IntKind.i64.wrap ((j:Int)+1)=((j+1:Nat):Int):=w64 (by omega) (by omega);have hat:(Ar l)[j]?=some (.agg [.str (Bk l j).1,.int .i64 (Bk l j).2.1,.bool (Bk l j).2.2]):=mtsD_at hj;have hbj:(l.map λm=>B9 p m.1)[j]?=some (B9 p (Bk l j).1):=by simp[Bk,Qg hj]
  have hne1:([st.c+1+2]=([1]:Id))=False:=eq_false (by simp);have hne2:(([1]:Id)=[st.c+1+2])=False:=eq_false (by simp);obtain⟨m,hmm⟩:∃m,Bk l j=m:=⟨_,rfl⟩;rw[hmm]at hat hbj;have h301:F301 [.str p,.str m.1]=some (.bool (B9 p m.1)):=rfl;obtain⟨st_s,st_m,st_c⟩:=st;simp only at h1 h4 h9 h10 h11 hm0 hm1 hm2 hne1 hne2 hc;cases hq:B9 p m.1 with
  |true=>
   rw[hq]at hbj h301;have hr:Ch l p=(j:Int):=ET hbj hall;simp only[↓go1,gB0,reduceIte,simprocAttr,h1,h4,h9,h10,h11,hlt,hj0,Qf,hat,hne2,hm0,hm1,hm2,Aa s301,h301,Qw,Ag,Ao,Ap,Qe,Qp,Qu,Qk];refine hret _ m (by rw[hr];omega) (by rw[hr];exact hmm.symm) h4 rfl ?_ ?_ ?_<;>simp only[go4,reduceIte,simprocAttr,hne2,hm0,hm1,hm2,Qw,Ag,Ql,Qq,Qt,Qz,QF,Qh,QA,and_self]
  |false=>
   rw[hq]at hbj h301;simp only[↓go1,gB0,reduceIte,simprocAttr,h1,h9,h10,h11,hlt,hj0,hw,Qf,hat,Aa s301,h301,Qw,Ag,Ao,Ap,Qe,Qp,Qu,Qk];refine ih (j+1) _ _ a b c (by omega) (λi hi=>?_) (by simp only;omega) h1 h4 h9 h10 rfl ?_ ?_ ?_
   ·rcases Q2 (Q7 hi)with hi|rfl
    ·exact hall i hi
    ·exact hbj
   all_goals simp only[go3,go4,reduceIte,simprocAttr,hne2,hm0,hm1,hm2,Qw,Ag,Ql,Qq,Qt,Qz,QF,Qh,QA,and_self]
def routeD(l:List Mt)(p:Bs):D:=if Ch l p=-1 then .tup [mtD m0t,.int .i64 14]else .tup [mtD (Bk l (Ch l p).toNat),.int .i64 0]
open Classical in
def F248:List D->Option D
 |[.agg [.slice _ _ xs],.str p]=>if xs=Ar (B7 xs)∧xs.length<=1000000 then some (routeD (B7 xs) p)else none
 |_=>none
open Classical in
theorem F248_eq{nl:Bool}{t:Id}{l:List Mt}{p:Bs}(hl:l.length<=1000000):F248 [.agg [.slice nl t (Ar l)],.str p]=some (routeD l p):=by
 have h:Ar l=Ar (B7 (Ar l))∧(Ar l).length<=1000000:=by rw[Bf,Aw];exact⟨rfl,hl⟩
 show(if _ then _ else _)=_;rw[if_pos h,Bf]
theorem ok248:(Ac F248).ok Qd 248:=by
 obtain⟨S,hS,hl⟩:=A5 (Ab ok301 Ad);have s301:=hl 301 _ rfl;clear hl;refine Ay (S:=S) hS fn248 (λds r h=>?_) (λds r h=>?_)
 ·unfold F248 at h;split at h
  ·simp
  ·cases h
 ·unfold F248 at h;split at h
  ·rename_i nl t xs p;split at h
   ·rename_i hc;obtain⟨hx,hl⟩:=hc;simp only[Qc]at h;subst h;generalize B7 xs=l at hx;subst hx;rw[Aw]at hl;unfold dc248;simp only[↓go1,gB2,go4,reduceIte,simprocAttr,Aw,Ag,Ql,Qq,Qh,and_self,Qi,Qn];refine loop248 (l:=l) (p:=p) (nl:=nl) (t:=t) hl s301 (λst m h0 h1 h4 h5 m0 m1 m2=>?_) (λst a b c h0 h4 m0 m1 m2=>?_) l.length 0 _ _ (.str []) (.int .i64 0) (.bool false) (by omega) (by simp) (by simp only;omega) rfl rfl rfl rfl rfl ?_ ?_ ?_
    ·unfold routeD;rw[if_neg h0,←h1];simp only[↓go1,gB3,Qb,h4,h5,m0,m1,m2,Ao,Ap,QF,Qe,AY,Bc];exact⟨rfl,rfl⟩
    ·unfold routeD;rw[if_pos h0];simp only[↓go1,gB0,reduceIte,simprocAttr,h4,m0,m1,m2,BH,Ag,Ao,Ap,Qe,Qk,AY,Bc];exact⟨rfl,rfl⟩
    all_goals simp only[go3,go4,reduceIte,simprocAttr,Ag,Ql,Qq,Qt,Qz,QF,Qh,QA,and_self,Qi,and_false,Qm]
   ·cases h
  ·cases h
open Classical in
def F159:List D->Option D
 |[.agg [.bool se,.int .i64 te,.str key,.slice nlm tm xs,.slice nlt tt ys],.str p]=>if xs=Ar (B7 xs)∧xs.length<=1000000 then some (.bool (decide (Ch (B7 xs) p≠-1)))else none
 |_=>none
theorem ok159:(Ac F159).ok Qd 159:=by
 obtain⟨S,hS,hl⟩:=A5 (Ab ok248 Ad);have s248:=hl 248 _ rfl;clear hl;refine Ay (S:=S) hS fn159 (λds r h=>?_) (λds r h=>?_)
 ·unfold F159 at h;split at h
  ·simp
  ·cases h
 ·unfold F159 at h;split at h
  ·rename_i se te key nlm tm xs nlt tt ys p;split at h
   ·rename_i hc;obtain⟨hx,hl⟩:=hc;simp only[Qc]at h;subst h;generalize B7 xs=l at hx;subst hx;rw[Aw]at hl;have h248:=F248_eq (nl:=nlm) (t:=[]) (p:=p) hl;unfold routeD at h248;by_cases hr:Ch l p=-1
    ·rw[if_pos hr]at h248;simp only[hr,ne_eq,not_true_eq_false,decide_false];unfold dc159;simp only[↓go1,gB0,reduceIte,simprocAttr,Aa s248,h248,mtD,Ag,Ao,Ap,Qe,Qk,Qi,Qm]
     all_goals rfl
    ·rw[if_neg hr]at h248;simp only[hr,ne_eq,not_false_eq_true,decide_true];unfold dc159;simp only[↓go1,gB0,reduceIte,simprocAttr,Aa s248,h248,mtD,Ag,Ao,Ap,Qe,Qk,Qi,Qm]
     all_goals rfl
   ·cases h
  ·cases h
def kFr(l:List Mt)(p:Bs):Nat->Nat
 |0=>0
 |j+1=>if Op.bytesLess (Bk l j).1 p=true then j+1 else kFr l p j
theorem kFr_le(l:List Mt)(p:Bs):∀j,kFr l p j<=j
 |0=>Qw _
 |j+1=>by
  unfold kFr;split
  ·exact Qw _
  ·exact Nat.le_succ_of_le (kFr_le l p j)
theorem nestB_at{l:List Mt}{s:Bs}{j:Nat}(hj:j<l.length)(h:(A3 (Bk l j).1 s||A3 s (Bk l j).1)=true):En s (l.map (·.1))=true:=by
 unfold En;rw[List.any_eq_true];refine⟨(Bk l j).1,QC.2 ⟨Bk l j,by simp[Bk,Qg hj],rfl⟩,?_⟩;rw[Bool.or_comm];exact h
theorem nestB_none{l:List Mt}{s:Bs}(h:∀i,i<l.length->(A3 (Bk l i).1 s||A3 s (Bk l i).1)=false):En s (l.map (·.1))=false:=by
 unfold En;rw[List.any_eq_false];intro q hq;obtain⟨m,hm,rfl⟩:=QC.1 hq;obtain⟨i,hi,rfl⟩:=Q_ hm;have:=h i hi;simp only[Bk,QU,Qg hi,Zm]at this;rw[Bool.or_comm,this];exact Q3
theorem loop47{S:Summs}{l:List Mt}{p:Bs}{nl:Bool}{t:Id}{d1 d2:D}{Q:Ex->St->Prop}(hb:l.length<=1000)(s111:S 111=some (Ac F111))(hp:∀m∈l,m.1.length<=1000000)(hs:p.length<=1000000)
  (hret:∀st,En p (l.map (·.1))=true->st.s 4= .slice nl t (Ar l)->st.s 5= .int .i64 15->Q .ret st)
  (hexit:∀st,En p (l.map (·.1))=false->st.s 0= .slice nl t (Ar l)->st.s 3= .ptr [0] 0->st.s 7= .int .i64 (kFr l p l.length:Int)->st.m [0] 0=some (.str p)->st.m [0] 1=some d1->st.m [0] 2=some d2->Q (.exit 0) st):
  ∀(f j:Nat) st g,l.length=j+f->(∀i,i<j->(A3 (Bk l i).1 p||A3 p (Bk l i).1)=false)->st.s 0= .slice nl t (Ar l)->st.s 3= .ptr [0] 0->st.s 7= .int .i64 (kFr l p j:Int)->st.s 8= .int .i64 (j:Int)->
   st.m [0] 0=some (.str p)->st.m [0] 1=some d1->st.m [0] 2=some d2->A6 S [] dc47l0 Q st g:=by
 intro f;induction f with
 |zero=>
  intro j st g hf hall h0 h3 h7 h8 hm0 hm1 hm2;refine Af dc47l0.eq_1 ?_;have hlt:¬((j:Int)<l.length):=by omega
  simp only[↓go1,go2,go4,reduceIte,simprocAttr,h0,h8,hlt,Aw];obtain rfl:j=l.length:=by omega
  exact hexit _ (nestB_none hall) h0 h3 h7 hm0 hm1 hm2
 |succ f ih=>
  intro j st g hf hall h0 h3 h7 h8 hm0 hm1 hm2;refine Af dc47l0.eq_1 ?_;have hj:j<l.length:=by omega
  have hlt:((j:Int)<l.length):=by omega
  have hj0:(0:Int)<=(j:Int):=by omega
  have hw:IntKind.i64.wrap ((j:Int)+1)=((j+1:Nat):Int):=w64 (by omega) (by omega);have hat:(Ar l)[j]?=some (.agg [.str (Bk l j).1,.int .i64 (Bk l j).2.1,.bool (Bk l j).2.2]):=mtsD_at hj;have hmem:Bk l j∈l:=by simp[Bk,Qg hj]
  have hml:=hp _ hmem;have hn:=nestB_at (s:=p) hj;have hk:kFr l p (j+1)=if Op.bytesLess (Bk l j).1 p=true then j+1 else kFr l p j:=rfl
  have hall':(A3 (Bk l j).1 p||A3 p (Bk l j).1)=false->∀i,i<j+1->(A3 (Bk l i).1 p||A3 p (Bk l i).1)=false:=by
   intro hz i hi;rcases Q2 (Q7 hi)with hi|rfl
   ·exact hall i hi
   ·exact hz
  generalize Bk l j=m at hat hml hn hk hall';have h111a:F111 [.str m.1,.str p]=some (.bool (A3 m.1 p)):=if_pos ⟨hml,hs⟩;have h111b:F111 [.str p,.str m.1]=some (.bool (A3 p m.1)):=if_pos ⟨hs,hml⟩;obtain⟨st_s,st_m,st_c⟩:=st;simp only at h0 h3 h7 h8 hm0 hm1 hm2;cases hwa:A3 m.1 p with
  |true=>
   rw[hwa]at hn h111a;simp only[↓go1,gB2,go4,reduceIte,simprocAttr,h0,h3,h8,hlt,hj0,Qf,hat,Aw,hm0,Aa s111,h111a,Ql,Qj,Qo];refine An.intro (Aj rfl) ?_;simp only[↓go1,go2,go3,reduceIte,simprocAttr,h0];exact hret _ (hn rfl) rfl rfl
  |false=>
   cases hwb:A3 p m.1 with
   |true=>
    rw[hwa,hwb]at hn;rw[hwa]at h111a;rw[hwb]at h111b;simp only[↓go1,gB2,go4,reduceIte,simprocAttr,h0,h3,h8,hlt,hj0,Qf,hat,Aw,hm0,Aa s111,h111a,h111b,Ql,Qj,Qo];refine An.intro (Aj rfl) ?_;simp only[↓go1,go2,go3,reduceIte,simprocAttr,h0];exact hret _ (hn rfl) rfl rfl
   |false=>
    rw[hwa,hwb]at hall';rw[hwa]at h111a;rw[hwb]at h111b;cases hbl:Op.bytesLess m.1 p with
    |true=>
     rw[hbl,if_pos rfl]at hk;simp only[↓go1,gB2,go4,reduceIte,simprocAttr,h0,h3,h8,hlt,hj0,Qf,hat,Aw,hm0,Aa s111,h111a,h111b,Ql,Qj,Qo];refine An.intro (Aj rfl) ?_;simp only[↓go1,gB2,reduceIte,simprocAttr,h0,h3,h8,hj0,Qf,hat,hm0,Ql,Qj,Qo,v_slss,hbl];refine An.intro (Aj rfl) ?_;simp only[↓go1,go2,go3,reduceIte,simprocAttr,h8,hw];exact ih (j+1) _ _ (by omega) (hall' rfl) h0 h3 (by rw[hk];rfl) rfl hm0 hm1 hm2
    |false=>
     rw[hbl,if_neg Q3]at hk;simp only[↓go1,gB2,go4,reduceIte,simprocAttr,h0,h3,h8,hlt,hj0,Qf,hat,Aw,hm0,Aa s111,h111a,h111b,Ql,Qj,Qo];refine An.intro (Aj rfl) ?_;simp only[↓go1,gB2,reduceIte,simprocAttr,h0,h3,h8,hj0,Qf,hat,hm0,Ql,Qj,Qo,v_slss,hbl];refine An.intro (Aj rfl) ?_;simp only[↓go1,go2,go3,reduceIte,simprocAttr,h8,hw];exact ih (j+1) _ _ (by omega) (hall' rfl) h0 h3 (by rw[hk];exact h7) rfl hm0 hm1 hm2
theorem mtsD_take(l:List Mt)(k:Nat):Q8 k (Ar l)=Ar (l.take k):=by simp[Ar]
theorem mtsD_drop(l:List Mt)(k:Nat):QZ k (Ar l)=Ar (l.drop k):=by simp[Ar]
def addR(l:List Mt)(m:Mt):Option (List Mt)×Int:=
 if CR m.1 m.2.1≠0 then(none,CR m.1 m.2.1)else if 0<=BR l m.1 then(none,20)else if En m.1 (l.map (·.1))=true then(none,15)else if 4<=l.length then(none,24)
 else(some (l.take (kFr l m.1 l.length)++m::l.drop (kFr l m.1 l.length)),0)
def tabR(nl:Bool)(l:List Mt)(o:Option (List Mt)):D:=match o with
 |none=> .slice nl [] (Ar l)
 |some l'=> .slice false [] (Ar l')
open Classical in
def F47:List D->Option D
 |[.slice nl _ xs,.agg [.str p,.int .i64 q,.bool b]]=>if mtsOk nl xs∧xs.length<=1000∧p.length<=1000000∧(∀m∈B7 xs,m.1.length<=1000000)then some (.tup [tabR nl (B7 xs) (addR (B7 xs) (p,q,b)).1,.int .i64 (addR (B7 xs) (p,q,b)).2])else none
 |_=>none
open Classical in
theorem F47_eq{nl:Bool}{t:Id}{l:List Mt}{m:Mt}(hl:l.length<=1000)(hn:nl=true->l=[])(hp:m.1.length<=1000000)(hall:∀m∈l,m.1.length<=1000000):F47 [.slice nl t (Ar l),mtD m]=some (.tup [tabR nl l (addR l m).1,.int .i64 (addR l m).2]):=by
 have h:mtsOk nl (Ar l)∧(Ar l).length<=1000∧m.1.length<=1000000∧(∀m∈B7 (Ar l),m.1.length<=1000000):=⟨mtsOk_mk (by omega) hn,by rw[Aw];exact hl,hp,by rw[Bf];exact hall⟩;show(if _ then _ else _)=_;rw[if_pos h,Bf]
open Classical in
theorem F74_eq{nl:Bool}{t:Id}{l:List Mt}{p:Bs}(hl:l.length<=1000000):F74 [.slice nl t (Ar l),.str p]=some (.int .i64 (BR l p)):=by
 have h:Ar l=Ar (B7 (Ar l))∧(Ar l).length<=1000000:=by rw[Bf,Aw];exact⟨rfl,hl⟩
 show(if _ then _ else _)=_;rw[if_pos h,Bf]
theorem ok47:(Ac F47).ok Qd 47:=by
 obtain⟨S,hS,hl⟩:=A5 (Ab ok110 (Ab ok74 (Ab ok111 Ad)));have s110:=hl 110 _ rfl;have s74:=hl 74 _ rfl;have s111:=hl 111 _ rfl;clear hl;refine Ay (S:=S) hS fn47 (λds r h=>?_) (λds r h=>?_)
 ·unfold F47 at h;split at h
  ·simp
  ·cases h
 ·unfold F47 at h;split at h
  ·rename_i nl t xs p q b;split at h
   ·rename_i hc;obtain⟨hc,hlen,hp,hall⟩:=hc;obtain⟨l,rfl,hl,hn,e⟩:=mtsOk_get hc;rw[e]at h hall;rw[Aw]at hlen;simp only[Qc]at h;subst h;have h110:F110 [.agg [.str p,.int .i64 q,.bool b]]=some (.int .i64 (CR p q)):=if_pos hp;have h74:=F74_eq (nl:=nl) (t:=[]) (p:=p) hl;unfold dc47 addR;simp only;generalize CR p q=e1 at *;generalize BR l p=e2 at *;by_cases he:e1=0
    ·subst he;by_cases he2:0<=e2
     ·simp only[↓go1,gB0,reduceIte,simprocAttr,Aa s110,h110,Aa s74,h74,ne_eq,Ag,Ao,Ap,Qe,he2];cases nl<;>exact⟨rfl,rfl⟩
     ·simp only[↓go1,gB0,reduceIte,simprocAttr,Aa s110,h110,Aa s74,h74,ne_eq,Ag,Ao,Ap,Qe,he2];refine loop47 (l:=l) (p:=p) (nl:=nl) (t:=t) (d1:= .int .i64 q) (d2:= .bool b) hlen s111 hall hp (λst h1 h4 h5=>?_) (λst h1 h0 h3 h7 m0 m1 m2=>?_) l.length 0 _ _ (by omega) (λi hi=>absurd hi (Nat.not_lt_zero _)) rfl rfl rfl rfl ?_ ?_ ?_
      ·rw[h1];simp only[↓go1,gB3,reduceIte,he2,h4,h5];cases nl<;>exact⟨rfl,rfl⟩
      ·rw[h1];by_cases h4:4<=l.length
       ·have h4':(4:Int)<=(l.length:Int):=by omega
        simp only[↓go1,gB3,reduceIte,simprocAttr,Aw,he2,h0,h4,h4'];cases nl<;>exact⟨rfl,rfl⟩
       ·have h4':¬(4:Int)<=(l.length:Int):=by omega
        have hk:=kFr_le l p l.length;generalize kFr l p l.length=k at h7 hk;have hk0:(0:Int)<=(k:Int):=by omega
        have hkl:(k:Int)<=(l.length:Int):=by omega
        have hb1:((l.take k).length*33<=140737488355328)=True:=eq_true (by rw[QJ];omega);have hb2:(((l.take k).length+1)*33<=140737488355328)=True:=eq_true (by rw[QJ];omega);have hb3:(((l.take k).length+1+(l.drop k).length)*33<=140737488355328)=True:=eq_true (by rw[QJ,QV];omega);have hdr:Q8 (l.length-k) (QZ k l)=QZ k l:=QW (by rw[QV];exact Qw _);have hd1:D.headSz [D.agg [.str p,.int .i64 q,.bool b]] 3=3:=rfl;have hkk:(k<=l.length)=True:=eq_true hk;simp only[↓go1,gB0,reduceIte,simprocAttr,ne_eq,Aw,Ag,Ao,Ap,Qe,Qj,Qi,false_and,and_false,h0,h3,h7,m0,m1,m2,h4',hk0,hkl,Qf,FS,ER,QG,mtsD_head,mtsD_take,mtsD_drop,Qj,Qr,hb1,hb2,hb3,or_true,hd1,ite_self,hdr];refine An.intro (Aj ?_) ?_
        ·simp only[Ax,Zj,QP,QU,Qh,QA,Zm,Aq,Qt,Qz,Zi,List.flatMap_nil,rds,↓go1,reduceIte,Qa,h3];simp[Ae]
        simp only[↓go1,gB3,reduceIte,Qa,Qj,he2,h4,mtsD_take,mtsD_drop,Qj,ite_self,hdr];have e9:Ar (Q8 k l)++[D.agg [.str p,.int .i64 q,.bool b]]++Ar (QZ k l)=Ar (Q8 k l++(p,q,b)::QZ k l):=by simp[Ar,mtD]
        rw[e9];exact⟨rfl,rfl⟩
      all_goals simp only[go3,reduceIte,simprocAttr,Ag,Ql,Qq,Qt,Qz,QF,Qh,QA,and_self]
    ·simp only[↓go1,gB0,reduceIte,simprocAttr,Aa s110,h110,ne_eq,Ag,Ao,Ap,Qe,he];cases nl<;>exact⟨rfl,rfl⟩
   ·cases h
  ·cases h
theorem tksD_take(l:List Tk)(k:Nat):Q8 k (Av l)=Av (l.take k):=by simp[Av]
theorem tksD_drop(l:List Tk)(k:Nat):QZ k (Av l)=Av (l.drop k):=by simp[Av]
def DM(l:List Tk)(n:Bs):Nat->Nat->Nat
 |0,j=>j
 |f+1,j=>if Op.bytesLess (A4 l j).1 n=true then DM l n f (j+1)else j
theorem intoR_le(l:List Tk)(n:Bs):∀f j,DM l n f j<=j+f
 |0,j=>Qw _
 |f+1,j=>by
  unfold DM;split
  ·have:=intoR_le l n f (j+1);omega
  ·omega
theorem loop119{S:Summs}{l:List Tk}{n:Bs}{nl:Bool}{t:Id}{d1 d2:D}{e:Nat}{Q:Ex->St->Prop}(hb:l.length<=1000000)
  (hexit:∀st,1<=st.c->st.s 0= .slice nl t (Av l)->st.s 3= .ptr [0] 0->st.s 5= .int .i64 (e:Int)->st.m [0] 0=some (.str n)->st.m [0] 1=some d1->st.m [0] 2=some d2->Q (.exit 0) st):
  ∀(f j:Nat) st g,l.length=j+f->DM l n f j=e->1<=st.c->st.s 0= .slice nl t (Av l)->st.s 3= .ptr [0] 0->st.s 5= .int .i64 (j:Int)->
   st.m [0] 0=some (.str n)->st.m [0] 1=some d1->st.m [0] 2=some d2->A6 S [] dc119l0 Q st g:=by
 intro f;induction f with
 |zero=>
  intro j st g hf he hc h0 h3 h5 hm0 hm1 hm2;refine Af dc119l0.eq_1 ?_;have hlt:¬((j:Int)<l.length):=by omega
  simp only[↓go1,go2,go4,reduceIte,simprocAttr,h0,h5,hlt,AP];refine An.intro (Aj rfl) ?_;simp only[↓go1,go2,reduceIte,Qa];exact hexit _ (by simp only;omega) h0 h3 (by rw[←he];exact h5) hm0 hm1 hm2
 |succ f ih=>
  intro j st g hf he hc h0 h3 h5 hm0 hm1 hm2;refine Af dc119l0.eq_1 ?_;have hj:j<l.length:=by omega
  have hlt:((j:Int)<l.length):=by omega
  have hj0:(0:Int)<=(j:Int):=by omega
  have hw:IntKind.i64.wrap ((j:Int)+1)=((j+1:Nat):Int):=w64 (by omega) (by omega);have hat:(Av l)[j]?=some (.agg [.str (A4 l j).1,.str (A4 l j).2.1,.slice (A4 l j).2.2.1 [] (Al (A4 l j).2.2.2)]):=D5 hj;unfold DM at he;generalize A4 l j=m at hat he;obtain⟨st_s,st_m,st_c⟩:=st;simp only at h0 h3 h5 hm0 hm1 hm2 hc;cases hbl:Op.bytesLess m.1 n with
  |true=>
   rw[hbl,if_pos rfl]at he;simp only[↓go1,gB2,go4,reduceIte,simprocAttr,h0,h3,h5,hlt,hj0,Qf,hat,AP,hm0,v_slss,Ql,Qj,Qo,hbl];refine An.intro (Aj rfl) ?_;simp only[↓go1,go2,go3,reduceIte,simprocAttr,h5,hw];exact ih (j+1) _ _ (by omega) he (by simp only;omega) h0 h3 rfl hm0 hm1 hm2
  |false=>
   rw[hbl,if_neg Q3]at he;simp only[↓go1,gB2,go4,reduceIte,simprocAttr,h0,h3,h5,hlt,hj0,Qf,hat,AP,hm0,v_slss,Ql,Qj,Qo,hbl];refine An.intro (Aj rfl) ?_;simp only[↓go1,go2,go3,reduceIte,Qa];exact hexit _ (by simp only;omega) h0 h3 (by rw[←he];exact h5) hm0 hm1 hm2
def withR(l:List Tk)(k:Tk):List Tk:=l.take (DM l k.1 l.length 0)++k::l.drop (DM l k.1 l.length 0)
open Classical in
def F119:List D->Option D
 |[.slice _ _ xs,.agg [.str n,.str p,.slice nl _ ys]]=>if(xs=Av (BS xs)∧xs.length<=90000)∧ys=Al (A7 ys)then some (.slice false [] (Av (withR (BS xs) (n,p,nl,A7 ys))))else none
 |_=>none
open Classical in
theorem F119_eq{nl0 nl:Bool}{t0 t:Id}{l:List Tk}{n p:Bs}{rs:List Rl}(hl:l.length<=90000):F119 [.slice nl0 t0 (Av l),.agg [.str n,.str p,.slice nl t (Al rs)]]=some (.slice false [] (Av (withR l (n,p,nl,rs)))):=by
 have h:(Av l=Av (BS (Av l))∧(Av l).length<=90000)∧Al rs=Al (A7 (Al rs)):=by rw[Bb,AP,AN];exact⟨⟨rfl,hl⟩,rfl⟩
 show(if _ then _ else _)=_;rw[if_pos h,Bb,AN]
theorem ok119:(Ac F119).ok Qd 119:=by
 refine Ay (S:=λ_=>none) AL fn119 (λds r h=>?_) (λds r h=>?_)
 ·unfold F119 at h;split at h
  ·simp
  ·cases h
 ·unfold F119 at h;split at h
  ·rename_i nl0 t0 xs n p nl t ys;split at h
   ·rename_i hc;obtain⟨⟨hx,hlen⟩,hy⟩:=hc;simp only[Qc]at h;subst h;generalize BS xs=l at *;generalize A7 ys=rs at *;subst hx hy;rw[AP]at hlen;unfold dc119;simp only[↓go1,go2,go3,Qb,QF];refine loop119 (l:=l) (n:=n) (nl:=nl0) (t:=t0) (d1:= .str p) (d2:= .slice nl t (Al rs)) (e:=DM l n l.length 0) (by omega) (λst hc h0 h3 h5 m0 m1 m2=>?_) l.length 0 _ _ (by omega) rfl (by simp only;omega) rfl rfl rfl ?_ ?_ ?_
    ·unfold withR;simp only;have hk:=intoR_le l n l.length 0;generalize DM l n l.length 0=k at h5 hk;rw[QF]at hk;have hk0:(0:Int)<=(k:Int):=by omega
     have hkl:(k:Int)<=(l.length:Int):=by omega
     have hb1:((l.take k).length*57<=140737488355328)=True:=eq_true (by rw[QJ];omega);have hb2:(((l.take k).length+1)*57<=140737488355328)=True:=eq_true (by rw[QJ];omega);have hb3:(((l.take k).length+1+(l.drop k).length)*57<=140737488355328)=True:=eq_true (by rw[QJ,QV];omega);have hdr:Q8 (l.length-k) (QZ k l)=QZ k l:=QW (by rw[QV];exact Qw _);have hd1:D.headSz [D.agg [.str n,.str p,.slice nl [] (Al rs)]] 3=3:=rfl;have hc0:(0=st.c+0)=False:=eq_false (by omega);have hkk:(k<=l.length)=True:=eq_true hk;simp only[↓go1,gB0,reduceIte,simprocAttr,hc0,h0,h3,h5,m0,m1,m2,hk0,hkl,Qf,FS,ER,QG,tksD_head,tksD_take,tksD_drop,Qj,Qr,hb1,hb2,hb3,or_true,hd1,ite_self,hdr,AP,ne_eq,Ag,Ao,Ap,Qe,Qj,Qi,false_and,and_false];refine An.intro (Aj ?_) ?_
     ·simp only[Ax,Zj,QP,QU,Qh,QA,Zm,Aq,Qt,Qz,Zi,List.flatMap_nil,rds,↓go1,reduceIte,Qa,h3];simp[Ae];omega
     simp only[↓go1,gB3,reduceIte,Qa,tksD_take,tksD_drop,Qj,ite_self,hdr,Qj];have e9:Av (Q8 k l)++[D.agg [.str n,.str p,.slice nl [] (Al rs)]]++Av (QZ k l)=Av (Q8 k l++(n,p,nl,rs)::QZ k l):=by simp[Av,tkD]
     rw[e9]
    all_goals simp only[go3,reduceIte,simprocAttr,Ag,Ql,Qq,Qt,Qz,QF,Qh,QA,and_self]
   ·cases h
  ·cases h
def makeR(l:List Tk)(k:Tk):Option (List Tk)×Int:=
 if FG k.1 k.2.1 k.2.2.2≠0 then(none,FG k.1 k.2.1 k.2.2.2)else if k.2.1=[]then(none,2)else if 0<=C0 l k.1 then(none,20)else if C0 l k.2.1<0 then(none,6)
 else if Dj k.2.2.2 (A4 l (C0 l k.2.1).toNat).2.2.2=false then(none,13)else(some (withR l k),0)
def setR(nl:Bool)(l:List Tk)(o:Option (List Tk)):D:=match o with
 |none=> .slice nl [] (Av l)
 |some l'=> .slice false [] (Av l')
open Classical in
def F52:List D->Option D
 |[.slice nl0 _ xs,.agg [.str n,.str p,.slice nl _ ys]]=>if(DX xs∧xs.length<=90000∧∀k∈BS xs,El k.2.2.2)∧rlsOk nl ys∧El (A7 ys)∧n.length<=1000000∧p.length<=1000000
   then some (.tup [setR nl0 (BS xs) (makeR (BS xs) (n,p,nl,A7 ys)).1,.int .i64 (makeR (BS xs) (n,p,nl,A7 ys)).2])else none
 |_=>none
open Classical in
theorem F117_eq{nl:Bool}{t:Id}{l:List Tk}{p:Bs}(hl:l.length<=1000000):F117 [.slice nl t (Av l),.str p]=some (.int .i64 (C0 l p)):=by
 have h:Av l=Av (BS (Av l))∧(Av l).length<=1000000:=by rw[Bb,AP];exact⟨rfl,hl⟩
 show(if _ then _ else _)=_;rw[if_pos h,Bb]
theorem findT_lt(l:List Tk)(p:Bs):C0 l p<l.length:=by
 have:=firstT_lt (l.map λm=>decide (m.1=p));rw[Qv]at this;exact this
theorem ok52:(Ac F52).ok Qd 52:=by
 obtain⟨S,hS,hl⟩:=A5 (Ab ok116 (Ab ok117 (Ab ok118 (Ab ok119 Ad))));have s116:=hl 116 _ rfl;have s117:=hl 117 _ rfl;have s118:=hl 118 _ rfl;have s119:=hl 119 _ rfl;clear hl;refine Ay (S:=S) hS fn52 (λds r h=>?_) (λds r h=>?_)
 ·unfold F52 at h;split at h
  ·simp
  ·cases h
 ·unfold F52 at h;split at h
  ·rename_i nl0 t0 xs n p nl t ys;split at h
   ·rename_i hc;obtain⟨⟨hc,h9,hk⟩,hr,hpo,hn,hp⟩:=hc;obtain⟨l,rfl,hl,e⟩:=Dv hc;obtain⟨rs,rfl,hrl,hrn,e2⟩:=Fo hr;rw[e,e2]at h;rw[e]at hk;rw[e2]at hpo;rw[AP]at h9;simp only[Qc]at h;subst h;have h116:=F113_eq (n:=n) (p:=p) (nl:=nl) (t:=[]) hrl hpo.2.1 hn hp;have h117n:=F117_eq (nl:=nl0) (t:=[]) (p:=n) hl;have h117p:=F117_eq (nl:=nl0) (t:=[]) (p:=p) hl;have h119:=F119_eq (nl0:=nl0) (t0:=[]) (n:=n) (p:=p) (nl:=nl) (t:=[]) (rs:=rs) h9;have hlt:=findT_lt l p;unfold dc52 makeR;simp only;generalize FG n p rs=e at *;generalize C0 l n=fn at *;generalize C0 l p=fp at *;by_cases he:e=0
    ·subst he;by_cases hp0:p=[]
     ·subst hp0;simp only[↓go1,gB0,reduceIte,simprocAttr,Aa s116,h116,ne_eq,Ag,Ao,Ap,Qe];simp[setR];rfl
     ·by_cases h1:0<=fn
      ·simp only[↓go1,gB0,reduceIte,simprocAttr,Aa s116,h116,Aa s117,h117n,ne_eq,Ag,Ao,Ap,Qe,hp0,h1];simp[setR];rfl
      ·by_cases h2:fp<0
       ·simp only[↓go1,gB0,reduceIte,simprocAttr,Aa s116,h116,Aa s117,h117n,h117p,ne_eq,Ag,Ao,Ap,Qe,hp0,h1,h2];simp[setR];rfl
       ·have hi0:(0:Int)<=fp:=by omega
        have hi:fp.toNat<l.length:=by omega
        have hat:=D5 (l:=l) (j:=fp.toNat) hi;have hm:A4 l fp.toNat∈l:=by simp[A4,Qg hi]
        have hlk:=hk _ hm;generalize A4 l fp.toNat=k at hat hlk;obtain⟨n2,p2,nl2,rs2⟩:=k;replace hat:(Av l)[fp.toNat]?=some (.agg [.str n2,.str p2,.slice nl2 [] (Al rs2)]):=hat;have h118:=F118_eq (na:=nl) (nb:=nl2) (ta:=[]) (tb:=[]) hrl hlk.1 hpo.2.1 hlk.2.1 hpo.2.2 hlk.2.2;simp only at h118;cases h3:Dj rs rs2 with
        |false=>
         rw[h3]at h118;simp only[↓go1,gB0,reduceIte,simprocAttr,Aa s116,h116,Aa s117,h117n,h117p,ne_eq,Ag,Ao,Ap,Qe,Qj,Qs,Qo,hp0,h1,h2,hi0,hat,Aa s118,h118];refine An.intro (Aj rfl) ?_;simp only[↓go1,gB3,reduceIte,simprocAttr,hp0,h1,h2];simp[setR];rfl
        |true=>
         rw[h3]at h118;simp only[↓go1,gB0,reduceIte,simprocAttr,Aa s116,h116,Aa s117,h117n,h117p,ne_eq,Ag,Ao,Ap,Qe,Qj,Qs,Qo,hp0,h1,h2,hi0,hat,Aa s118,h118];refine An.intro (Aj rfl) ?_;simp only[↓go1,gB0,reduceIte,simprocAttr,Aa s119,h119,Ag,Ao,Ap,Qe,hp0,h1,h2];simp[setR];rfl
    ·simp only[↓go1,gB0,reduceIte,simprocAttr,Aa s116,h116,ne_eq,Ag,Ao,Ap,Qe,he];simp[setR];rfl
   ·cases h
  ·cases h
end Go.Vd
namespace Go.Vd
open Go.Proofs
def dc257:DC:=(sr [ci 2 0] (.seq (sr [mm 3 0] (cd 3 (sr [ci 2 0] .ret) .skip)) (sr [ci 2 4] .ret)))
theorem fn257:Fn Qd 257 4 dc257 [.t 2]:=Am func257
def dc258:DC:=(sr [cb 2 false] (sr [mm 3 0,oo 4 (.build [(.int .u8 0),(.str []),(.int .i64 0)] [(0,1,(.c (.int .u8 3))),(1,1,(.t 3))]),cc 5 98 [(.t 4)],bi 6 .eql 5 0,mm 2 6] .ret))
theorem fn258:Fn Qd 258 7 dc258 [.t 2]:=Am func258
def dc260:DC:=(sr [cb 2 false] (sr [mm 3 0,nn 4 false 3,bi 5 .leq 4 6,mm 6 5,og 7 (.mv (.t 0)) 3 true,og 8 (.call (.c (.fn 343 [])) [(.t 7),(.c (.fn 344 []))]) 3 true,og 9 (.un .not (.t 8)) 3 true,oo 10 (.pick (.t 6) (.t 9) (.c (.bool false))),mm 2 10] .ret))
theorem fn260:Fn Qd 260 11 dc260 [.t 2]:=Am func260
def dc261l0:DC:=(sr [bt 14 .lss 13 12] (.seq (cd 14 .skip (.exit 0)) (.seq (.block 1 (sr [mm 15 13,mm 5 15] (.seq (.drawn [mm 16 0,mm 17 5,ii 18 1 16 17,ll 19 18,mm 20 1,mm 21 5,ii 22 1 20 21,ll 23 22,bt 24 .neq 19 23] []) (cd 24 (sr [cb 4 false] .ret) .skip)))) (.row [bi 25 .add 13 1,mm 13 25]))))
def dc261:DC:=(sr [cb 4 false] (.seq (sr [mm 6 0,nn 7 false 6,mm 8 1,nn 9 false 8,bt 10 .neq 7 9] (cd 10 (sr [cb 4 false] .ret) .skip)) (.seq (sr [mm 11 0,nn 12 false 11,ci 13 0] (.block 0 (.loop dc261l0))) (sr [cb 4 true] .ret))))
theorem fn261:Fn Qd 261 26 dc261 [.t 4]:=Am func261
def dc347:DC:=(sr [oo 2 (.mv (.c (.str [])))] (.seq (sr [mm 3 0,oo 4 (.bin .eql (.t 3) (.c (.str [])))] (cd 4 (sr [oo 2 (.mv (.c (.str [45])))] .ret) .skip)) (sr [mm 5 0,mm 2 5] .ret)))
theorem fn347:Fn Qd 347 6 dc347 [.t 2]:=Am func347
def dc346l0:DC:=(.seq (sr [mm 11 0,bi 12 .gtr 11 0] (cd 12 .skip (.exit 0))) (.seq (.block 1 (.row [mm 15 0,bi 16 .rem 15 10,oo 17 (.idxs (.c (.str [48,49,50,51,52,53,54,55,56,57,97,98,99,100,101,102])) (.t 16)),oo 18 (.bslice 5 1 [(.t 17)]),oo 19 (.b2s (.t 18)),mm 20 3,bt 21 .add 19 20,mm 3 21])) (.row [mm 13 0,bi 14 .quo 13 10,mm 0 14])))
def dc346:DC:=(sr [oo 2 (.mv (.c (.str [])))] (sr [mm 4 0,bi 5 .rem 4 10,oo 6 (.idxs (.c (.str [48,49,50,51,52,53,54,55,56,57,97,98,99,100,101,102])) (.t 5)),oo 7 (.bslice 5 1 [(.t 6)]),oo 8 (.b2s (.t 7)),mm 3 8] (.seq (sr [mm 9 0,bi 10 .quo 9 10,mm 0 10] (.block 0 (.loop dc346l0))) (sr [mm 22 3,mm 2 22] .ret))))
theorem fn346:Fn Qd 346 23 dc346 [.t 2]:=Am func346
def dc262:DC:=(sr [cb 4 false] (sr [mm 5 0,mm 6 1,cc 7 345 [(.t 5),(.t 6)],mm 4 7] .ret))
theorem fn262:Fn Qd 262 8 dc262 [.t 4]:=Am func262
def dc345l0:DC:=(sr [bt 14 .lss 13 12] (.seq (cd 14 .skip (.exit 0)) (.seq (.block 1 (sr [mm 15 13,mm 5 15] (.seq (.drawn [mm 16 0,mm 17 5,ii 18 2 16 17,lk 19 2 18,mm 20 1,mm 21 5,ii 22 2 20 21,lk 23 2 22,oo 24 (.seq true [(2,0),(0,1)] (.t 19) (.t 23))] []) (cd 24 (sr [cb 4 false] .ret) .skip)))) (.row [bi 25 .add 13 1,mm 13 25]))))
def dc345:DC:=(sr [cb 4 false] (.seq (sr [mm 6 0,nn 7 false 6,mm 8 1,nn 9 false 8,bt 10 .neq 7 9] (cd 10 (sr [cb 4 false] .ret) .skip)) (.seq (sr [mm 11 0,nn 12 false 11,ci 13 0] (.block 0 (.loop dc345l0))) (sr [cb 4 true] .ret))))
theorem fn345:Fn Qd 345 26 dc345 [.t 4]:=Am func345
def dc317l0:DC:=(sr [bt 14 .lss 13 12] (.seq (cd 14 .skip (.exit 0)) (.seq (.block 1 (sr [ii 15 1 11 13,ll 16 15,mm 5 16] (.drawn [mm 17 3,mm 18 5,oo 19 (.bin .shr (.t 18) (.c (.int .u64 4))),oo 20 (.idxs (.c (.str [48,49,50,51,52,53,54,55,56,57,97,98,99,100,101,102])) (.t 19)),mm 21 5,oo 22 (.bin .and (.t 21) (.c (.int .u8 15))),oo 23 (.idxs (.c (.str [48,49,50,51,52,53,54,55,56,57,97,98,99,100,101,102])) (.t 22)),oo 24 (.bslice 5 1 [(.t 20),(.t 23)]),oo 25 (.app 5 1 1 (.t 17) (.t 24)),mm 3 25] []))) (.row [bi 26 .add 13 1,mm 13 26]))))
def dc317:DC:=(sr [oo 2 (.mv (.c (.str [])))] (sr [mm 6 0,nn 7 true 6,oo 8 (.bin .mul (.c (.int .i64 2)) (.t 7)),oo 9 (.mksl 5 1 1 (.int .u8 0) (.c (.int .i64 0)) (.t 8)),mm 3 9] (.seq (sr [mm 10 0,oo 11 (.s2b (.t 10)),nn 12 false 11,ci 13 0] (.block 0 (.loop dc317l0))) (sr [mm 27 3,oo 28 (.b2s (.t 27)),mm 2 28] .ret))))
theorem fn317:Fn Qd 317 29 dc317 [.t 2]:=Am func317
def dc348l0:DC:=(sr [bt 12 .lss 11 10] (.seq (cd 12 .skip (.exit 0)) (.seq (.block 1 (sr [mm 13 11,ii 14 1 9 11,ll 15 14,mm 4 13,mm 5 15] (.row [mm 16 3,mm 17 4,mm 18 5,cc 19 346 [(.t 18)],ii 20 1 16 17,oz (.store 1 (.t 20) (.t 19))]))) (.row [bi 21 .add 11 1,mm 11 21]))))
def dc348:DC:=(sr [oo 2 (.mv (.c (.str [])))] (sr [mm 6 0,nn 7 false 6,oo 8 (.mksl 9 1 16 (.str []) (.t 7) (.t 7)),mm 3 8] (.seq (sr [mm 9 0,nn 10 false 9,ci 11 0] (.block 0 (.loop dc348l0))) (sr [mm 22 3,cc 23 221 [(.t 22),(.c (.str [44]))],mm 2 23] .ret))))
theorem fn348:Fn Qd 348 24 dc348 [.t 2]:=Am func348
def dc232l0:DC:=(sr [bt 19 .lss 18 17] (.seq (cd 19 .skip (.exit 0)) (.seq (.block 1 (sr [mm 20 18,ii 21 2 16 18,lk 22 2 21,oo 7 (.alloc [(.str []),(.int .u8 0)]),mm 6 20,oz (.store 2 (.t 7) (.t 22))] (.drawn [mm 23 5,mm 24 6,ff 25 0 7,ll 26 25,oo 27 (.bin .add (.t 26) (.c (.str [58]))),ff 28 1 7,ll 29 28,cc 30 328 [(.t 29)],bt 31 .add 27 30,ii 32 1 23 24,oz (.store 1 (.t 32) (.t 31))] [(7,3)]))) (.row [bi 33 .add 18 1,mm 18 33]))))
def dc232:DC:=(sr [oo 2 (.mv (.c (.str []))),ci 3 0] (.seq (sr [mm 8 0,cc 9 214 [(.t 8)],mm 4 9] (sr [mm 10 4,bi 11 .neq 10 0] (cd 11 (sr [mm 12 4,oo 2 (.mv (.c (.str []))),mm 3 12] .ret) .skip))) (sr [mm 13 0,nn 14 false 13,oo 15 (.mksl 9 1 16 (.str []) (.t 14) (.t 14)),mm 5 15] (.seq (sr [mm 16 0,nn 17 false 16,ci 18 0] (.block 0 (.loop dc232l0))) (sr [mm 34 5,cc 35 221 [(.t 34),(.c (.str [44]))],mm 2 35,ci 3 0] .ret)))))
theorem fn232:Fn Qd 232 36 dc232 [.t 2,.t 3]:=Am func232
end Go.Vd
namespace Go.Vd
open Go.RowKit
def hexD(n:Nat):UInt8:=if n<10 then UInt8.ofNat (48+n)else UInt8.ofNat (87+n)
def hexB(s:List UInt8):List UInt8:=s.flatMap λb=>[hexD (b.toNat / 16),hexD (b.toNat % 16)]
theorem hexB_len:∀s:List UInt8,(hexB s).length=2*s.length
 |[]=>rfl
 |b::r=>by
  have:=hexB_len r;simp only[hexB,Zi,Qr,Qt,Qz]at this ⊢;omega
theorem FV(a b:List UInt8):AI (a++b)=AI a++AI b:=by simp[AI]
theorem Ct(a:List UInt8):(AI a).length=a.length:=by simp[AI]
theorem DF:∀a:List UInt8,Bw (AI a)=some a
 |[]=>rfl
 |c::r=>by
  have h:=c.toNat_lt;show(Bw (AI r)).map _=_;rw[DF r];simp
theorem hexTab:∀n,n<16->([48,49,50,51,52,53,54,55,56,57,97,98,99,100,101,102]:List UInt8)[n]?=some (hexD n):=by decide+kernel
theorem and15:∀n:Nat,n<256->bits .and .u8 (n:Int) 15=((n % 16:Nat):Int):=by decide+kernel
theorem shr4:∀n:Nat,n<256->(n:Int).fdiv (2 ^ min (4:Int).toNat IntKind.u8.bits)=((n / 16:Nat):Int):=by decide+kernel
theorem hexB_snoc(s:List UInt8)(c:UInt8):hexB (s++[c])=hexB s++[hexD (c.toNat / 16),hexD (c.toNat % 16)]:=by simp[hexB]
def Cw:List (List UInt8)->Nat
 |[]=>0
 |w::r=>w.length+Cw r
def strR(m:Mem)(i:Id):Nat->Nat->Option (List (List UInt8))
 |0,_=>some []
 |f+1,j=>match m i j,strR m i f (j+1)with
  |some (.str p),some l=>some (p::l)
  |_,_=>none
theorem strR_some{m:Mem}{i:Id}:∀{f j:Nat} {xs:List (List UInt8)},strR m i f j=some xs->xs.length=f∧∀k x,xs[k]?=some x->m i (j+k)=some (.str x)
 |0,j,xs,h=>by
  simp only[strR,Qc]at h;subst h;exact⟨rfl,by simp⟩
 |f+1,j,xs,h=>by
  unfold strR at h;split at h
  ·rename_i p l e1 e2;simp only[Qc]at h;subst h;obtain⟨r1,r2⟩:=strR_some e2;refine⟨by simp[r1],λk x hx=>?_⟩;cases k with
   |zero=>simp only[Qh,Qc]at hx;subst hx;exact e1
   |succ k=>
    have:=r2 k x (by simpa using hx);rw[show j+1+k=j+(k+1)by omega]at this;exact this
  ·cases h
theorem strR_loc{m m':Mem}{i:Id}:∀{f j n:Nat},j+f<=n->(∀o,o<n->m i o=m' i o)->strR m i f j=strR m' i f j
 |0,j,n,_,_=>rfl
 |f+1,j,n,hn,h=>by
  unfold strR;rw[h j (by omega),strR_loc (f:=f) (j:=j+1) (by omega) h]
theorem strR_of{m:Mem}{i:Id}:∀{xs:List (List UInt8)} {j:Nat},(∀k x,xs[k]?=some x->m i (j+k)=some (.str x))->strR m i xs.length j=some xs
 |[],j,_=>rfl
 |x::r,j,h=>by
  have h0:=h 0 x rfl;have hr:=strR_of (xs:=r) (j:=j+1) (λk y hy=>by have:=h (k+1) y (by simpa using hy);rw[show j+1+k=j+(k+1)by omega];exact this);simp only[Qt,strR,Zn]at h0 ⊢;rw[h0,hr]
def De:List (List UInt8)->List UInt8
 |[]=>[]
 |[w]=>w
 |w::v::r=>w++44::De (v::r)
theorem Fv:∀l:List (List UInt8),(De l).length<=Cw l+l.length
 |[]=>by simp[De]
 |[w]=>by simp[De,Cw]
 |w::v::r=>by
  have:=Fv (v::r);simp only[De,Qr,Qt,Cw]at this ⊢;omega
theorem joinC_eq:∀l:List (List UInt8),Lib.join l [44]=De l
 |[]=>rfl
 |[w]=>Lib.join_one w [44]
 |w::v::r=>by
  have ih:=joinC_eq (v::r);rw[Lib.join_cons]at ih;rw[Lib.join_cons,De,←ih];simp[Lib.joinTail]
def joinQ:Summ where
 rd:=λds _=>match ds with
  |[.row i n,_]=>(List.range n).map λo=>(i,o)
  |_=>[]
 ex:=λds m _=>match ds with
  |[.row i n,.str [44]]=>(strR m i n 0).bind λl=>if l.length<=1000∧Cw l<=1000000 then some (.str (De l),[])else none
  |_=>none
theorem joinQ_ok {P:Program} {ρ:Go.Shelf.Ren} (L:Go.Proofs.Lays.n156 P ρ) (X:Go.Proofs.Builder.Extra P ρ) (ent:∃fn,P.funcs[ρ.f 156]?=some fn∧fn.body.isSome=true∧(fn.name== "runtime.NumGoroutine")=false):joinQ.ok P (ρ.f 156):=by
 refine⟨ent,λds m m' fr h=>?_,?_⟩
 ·simp only[joinQ]at h ⊢;split
  ·rename_i i n;simp only at h;rw[strR_loc (m:=m) (m':=m') (n:=n) (by omega) λo ho=>h (i,o) (QC.2 ⟨o,by simpa using ho,rfl⟩)]
  ·rfl
 intro B w0 w m g fr ds vs r u hi hfresh hl hrep hex;simp only[joinQ]at hex;split at hex
 ·rename_i i n;rw[QM]at hex;obtain⟨l,hls,hex⟩:=hex;split at hex
  ·rename_i hc;obtain⟨c1,c2⟩:=hc;simp only[Qc,QQ]at hex;obtain⟨rfl,rfl⟩:=hex
   match vs,hl with
   |[v,v1],_=>
    have h0:=hrep 0 _ v rfl rfl;have h1:=hrep 1 _ v1 rfl rfl;rw[h1.str_inv];obtain⟨b,c,rfl,hnc,hb⟩:=h0.row_inv;obtain⟨hl1,hl2⟩:=strR_some hls;obtain⟨hBb,hGb,cur,T,hheap,hobj⟩:=hi.obj i b hb;have hcell:∀(j:Nat) z,l[j]?=some z->w.cell? ⟨b,0+j,none⟩=some (.string ⟨z.toArray⟩):=by
     intro j z hz;have hm:=hl2 j z hz;rw[QF]at hm;obtain⟨v',r1,r2,r3⟩:=hobj j _ hm;rw[r3.str_inv]at r1;simp[World.cell?,hheap,r1]
    have hmap:(l.map λx=>(⟨x.toArray⟩:ByteArray)).map (·.data.toList)=l:=by simp[QO,Function.comp_def]
    have hj:(⟨#[44]⟩:ByteArray).data.toList=[44]:=rfl;have hjl:=Fv l;have:=Go.Proofs.Any.strings_Join L X b 0 c (l.map λx=>(⟨x.toArray⟩:ByteArray)) ⟨#[44]⟩ w (λj x hx=>by
     rw[Zh,QB]at hx;obtain⟨z,hz,rfl⟩:=hx;exact hcell j z hz) (hi.lt hb) (by simp;omega) (by simp;omega) (by rw[hmap,hj,joinC_eq];omega)
    rw[hmap,hj,joinC_eq,Qv,hl1]at this;refine this.mono ?_;rintro ev w' ⟨rfl,hb⟩;exact⟨_,g.over w w',rfl,hi.over hb,Ext.over hi.gz hb,.str _,λi hf _=>hf⟩
  ·cases hex
 ·cases hex
section
variable{α:Type}{mk:α->List D}{ok:α->Prop}{res:α->D}
open Classical in
def FX(mk:α->List D)(ok:α->Prop)(res:α->D):List D->Option D:=λds=>if h:∃a,ok a∧mk a=ds then some (res (Classical.choose h))else none
theorem BA(inj:∀a b,mk a=mk b->a=b){a:α}(ha:ok a):FX mk ok res (mk a)=some (res a):=by
 have h:∃b,ok b∧mk b=mk a:=⟨a,ha,rfl⟩;unfold FX;rw[dif_pos h,inj _ _ (Classical.choose_spec h).2]
theorem F6{ds:List D}{r:D}(h:FX mk ok res ds=some r):∃a,ok a∧mk a=ds∧res a=r:=by
 unfold FX at h;split at h
 ·rename_i hx;simp only[Qc]at h;exact⟨_,(Classical.choose_spec hx).1,(Classical.choose_spec hx).2,h⟩
 ·cases h
theorem BI{P:Program}{S:Summs}{f:FuncId}{N:Nat}{dc:DC}{rs:List RV}(hS:Summs.ok P S)(hf:Fn P f N dc rs)(hN:∀a,(mk a).length<=N)
  (hF:∀a,ok a->dc.wp S [] (DE rs λd _=>d.unR=res a∧(res a).calmR=true) ⟨Bx (mk a),λ_ _=>none,0⟩):(Ac (FX mk ok res)).ok P f:=by
 refine Ay hS hf (λds r h=>?_) (λds r h=>?_)
 ·obtain⟨a,_,rfl,_⟩:=F6 h;exact hN a
 ·obtain⟨a,ha,rfl,rfl⟩:=F6 h;exact hF a ha
end
end Go.Vd
namespace Go.Vd
open Go.Proofs Go.RowKit
structure Ak where
 op:Int
 tk:Bs
 pa:Bs
 ot:Bs
 n:Int
 cas:Int
 fl:Bool
 nln:Bool
 ns:List Int
 da:Bs
 nlr:Bool
 rs:List Rl
 key:Bs
def AR(l:List Int):List D:=l.map (.int .i64)
theorem BY(l:List Int):(AR l).length=l.length:=Qv ..
theorem intsD_inj:∀{a b:List Int},AR a=AR b->a=b
 |[],[],_=>rfl
 |[],_::_,h=>by simp[AR]at h
 |_::_,[],h=>by simp[AR]at h
 |x::a,y::b,h=>by
  simp only[AR,Q1,Qi,D.int.injEq,true_and]at h;rw[h.1,intsD_inj (a:=a) (b:=b) h.2]
theorem intsD_el(l:List Int):(AR l).all (elB none)=true:=by rw[Qx];intro x hx;obtain⟨y,_,rfl⟩:=QC.1 hx;rfl
theorem rlsD_inj{a b:List Rl}(h:Al a=Al b):a=b:=by rw[←AN a,h,AN]
theorem mtsD_inj{a b:List Mt}(h:Ar a=Ar b):a=b:=by rw[←Bf a,h,Bf]
theorem tksD_inj{a b:List Tk}(h:Av a=Av b):a=b:=by rw[←Bb a,h,Bb]
def akC(a:Ak):List D:=[.int .u8 a.op,.str a.tk,.str a.pa,.str a.ot,.int .i64 a.n,.int .i64 a.cas,.bool a.fl,.slice a.nln [] (AR a.ns),.str a.da,.slice a.nlr [] (Al a.rs),.str a.key]
def akD(a:Ak):D:= .agg (akC a)
theorem Ed{a b:Ak}(h:akD a=akD b):a=b:=by
 cases a;cases b;simp only[akD,akC,D.agg.injEq,Qi,D.int.injEq,D.str.injEq,D.bool.injEq,D.slice.injEq,true_and,and_true]at h;obtain⟨h1,h2,h3,h4,h5,h6,h7,⟨h8,h9⟩,h10,⟨h11,h12⟩,h13⟩:=h;have e9:=intsD_inj h9;have e12:=rlsD_inj h12;subst h1 h2 h3 h4 h5 h6 h7 h8 h10 h11 h13 e9 e12;rfl
def EU(b:Bool):Int:=if b=true then 0 else 4
def F257:List D->Option D:=FX (λb:Bool=>[.bool b]) (λ_=>True) (λb=> .int .i64 (EU b))
theorem F257_eq(b:Bool):F257 [.bool b]=some (.int .i64 (EU b)):=BA (mk:=λb:Bool=>[.bool b]) (λa b h=>by simpa using h) trivial
theorem ok257:(Ac F257).ok Qd 257:=by
 refine BI (S:=λ_=>none) AL fn257 (λ_=>by simp) (λb _=>?_);unfold dc257;cases b<;>simp only[↓go1,gB3,reduceIte,Qa,Qb]
 all_goals (first|rfl|exact⟨rfl,rfl⟩)
def F258:List D->Option D:=FX (λs:Bs=>[.str s]) (λs=>s.length<=1000000) (λs=> .bool (BC s))
theorem F258_eq{s:Bs}(h:s.length<=1000000):F258 [.str s]=some (.bool (BC s)):=BA (mk:=λs:Bs=>[.str s]) (λa b h=>by simpa using h) h
theorem ok258:(Ac F258).ok Qd 258:=by
 obtain⟨S,hS,hl⟩:=A5 (Ab ok98 Ad);have s98:=hl 98 _ rfl;clear hl;refine BI hS fn258 (λ_=>by simp) (λs hs=>?_);have h98:F98 [.agg [.int .u8 3,.str s,.int .i64 0]]=some (.int .i64 (DK 3 s 0)):=if_pos hs;have hr:DK 3 s 0=if BC s=true then 0 else 2:=by simp[DK]
 rw[hr]at h98;unfold dc258;cases hn:BC s<;>rw[hn]at h98<;>simp only[if_true,Ze,if_false]at h98
 ·simp only[↓go1,gB2,go4,reduceIte,Qa,Qb,Aa s98,h98,BH,CW,QD,and_self,Qp,Qu,Qj,Qs]
  all_goals (first|rfl|exact⟨rfl,rfl⟩)
 ·simp only[↓go1,gB2,go4,reduceIte,Qa,Qb,Aa s98,h98,BH,CW,QD,and_self,Qp,Qu,Qj,Qs]
  all_goals (first|rfl|exact⟨rfl,rfl⟩)
def countB(l:List Int):Bool:=decide (l.length<=6)&&!(l.any λx=>!decide (1<=x∧x<=999))
def F260:List D->Option D:=FX (λp:Bool×List Int=>[.slice p.1 [] (AR p.2)]) (λp=>p.2.length<=1000000) (λp=> .bool (countB p.2))
theorem F260_eq{nl:Bool}{l:List Int}(h:l.length<=1000000):F260 [.slice nl [] (AR l)]=some (.bool (countB l)):=
 BA (mk:=λp:Bool×List Int=>[.slice p.1 [] (AR p.2)]) (a:=(nl,l)) (λa b h=>by
  simp only[Qi,D.slice.injEq,true_and,and_true]at h;exact Zv h.1 (intsD_inj h.2)) h
theorem cn343_ex{l:List Int}{nl:Bool}{t:Id}(hl:l.length<=1000000)(m:Mem)(fr:Id):
  (cnS 344 none K344).ex [.slice nl t (AR l),.fn 344 []] m fr=some (.bool (l.any λx=>!decide (1<=x∧x<=999)),[]):=by
 have e:(AR l).map (K344 .junk)=(l.map λx=>!decide (1<=x∧x<=999)).map λb=>some (.bool b):=by
  simp only[AR,QO];exact QE λr _=>rfl
 simp only[cnS,BY,hl,intsD_el,and_self,if_true,E7,Qe,e,C5,QN,List.any_map];rfl
theorem ok260:(Ac F260).ok Qd 260:=by
 obtain⟨S,hS,hl⟩:=A5 (Ab cn343 Ad);have s343:=hl 343 _ rfl;clear hl;refine BI hS fn260 (λ_=>by simp) (λp hs=>?_);obtain⟨nl,l⟩:=p;have h343:=cn343_ex (nl:=nl) (t:=[]) hs;unfold dc260 countB;simp only;generalize (l.any λx=>!decide (1<=x∧x<=999))=b at h343;by_cases h6:l.length<=6
 ·have h6':((l.length:Int)<=6):=by omega
  simp only[↓go1,gB3,reduceIte,Qa,Qb,Ah s343,h343,h6,h6',BY]
  all_goals (first|rfl|exact⟨rfl,rfl⟩)
 ·have h6':¬((l.length:Int)<=6):=by omega
  simp only[↓go1,gB3,reduceIte,Qa,Qb,h6,h6',BY,Zd,and_self]
  all_goals (first|rfl|exact⟨rfl,rfl⟩)
def F261:List D->Option D:=FX (λp:Bool×List D×Bool=>[.slice p.1 [] p.2.1,.slice p.2.2 [] []]) (λp=>p.2.1.length<=1000000) (λp=> .bool p.2.1.isEmpty)
theorem F261_eq{nl nl':Bool}{l:List D}(h:l.length<=1000000):F261 [.slice nl [] l,.slice nl' [] []]=some (.bool l.isEmpty):=
 BA (mk:=λp:Bool×List D×Bool=>[.slice p.1 [] p.2.1,.slice p.2.2 [] []]) (a:=(nl,l,nl')) (λa b h=>by
  simp only[Qi,D.slice.injEq,true_and,and_true]at h;exact Zv h.1.1 (Zv h.1.2 h.2)) h
theorem ok261:(Ac F261).ok Qd 261:=by
 refine BI (S:=λ_=>none) AL fn261 (λ_=>by simp) (λp hs=>?_);obtain⟨nl,l,nl'⟩:=p;unfold dc261;cases l with
 |nil=>
  simp only[↓go1,go2,go4,reduceIte,Qa,Qb,Qz];have h00:((0:Int)<((0:Nat):Int))=False:=by simp
  refine Af dc261l0.eq_1 ?_;simp only[↓go1,gB3,reduceIte,Qa,Qb,h00]
  all_goals (first|rfl|exact⟨rfl,rfl⟩)
 |cons x r=>
  have hne:(((r.length+1:Nat):Int)=((0:Nat):Int))=False:=eq_false (by omega);simp only[↓go1,gB3,reduceIte,Qa,Qb,Qt,Qz,hne]
  all_goals (first|rfl|exact⟨rfl,rfl⟩)
theorem ok345:(Ac F261).ok Qd 345:=by
 refine BI (S:=λ_=>none) AL fn345 (λ_=>by simp) (λp hs=>?_);obtain⟨nl,l,nl'⟩:=p;unfold dc345;cases l with
 |nil=>
  simp only[↓go1,go2,go4,reduceIte,Qa,Qb,Qz];have h00:((0:Int)<((0:Nat):Int))=False:=by simp
  refine Af dc345l0.eq_1 ?_;simp only[↓go1,gB3,reduceIte,Qa,Qb,h00]
  all_goals (first|rfl|exact⟨rfl,rfl⟩)
 |cons x r=>
  have hne:(((r.length+1:Nat):Int)=((0:Nat):Int))=False:=eq_false (by omega);simp only[↓go1,gB3,reduceIte,Qa,Qb,Qt,Qz,hne]
  all_goals (first|rfl|exact⟨rfl,rfl⟩)
def F347:List D->Option D:=FX (λs:Bs=>[.str s]) (λ_=>True) (λs=> .str (if s=[]then [45]else s))
theorem F347_eq(s:Bs):F347 [.str s]=some (.str (if s=[]then [45]else s)):=BA (mk:=λs:Bs=>[.str s]) (λa b h=>by simpa using h) trivial
theorem ok347 : (Ac F347).ok Qd 347 := by
  refine BI (S := fun _ => none) AL fn347 (fun _ => by simp) (fun s _ => ?_)
  unfold dc347
  cases s with
  | nil => simp only [↓go1, gB3, reduceIte, Qa, Qb, and_self]
           all_goals (first | rfl | exact ⟨rfl, rfl⟩)
  | cons x r =>
    have he : ((x :: r) == ([] : Bs)) = false := rfl
    simp only [↓go1, gB3, reduceIte, Qa, Qb, reduceCtorEq]
    all_goals (first | rfl | exact ⟨rfl, rfl⟩)
def Ft(n:Nat):Bs:=if n<10 then [hexD n]else if n<100 then [hexD (n / 10),hexD (n % 10)]else [hexD (n / 100),hexD (n / 10 % 10),hexD (n % 10)]
def F346:List D->Option D:=FX (λn:Nat=>[.int .i64 (n:Int)]) (λn=>n<1000) (λn=> .str (Ft n))
theorem F346_eq{n:Nat}(h:n<1000):F346 [.int .i64 (n:Int)]=some (.str (Ft n)):=BA (mk:=λn:Nat=>[.int .i64 (n:Int)]) (λa b h=>by simp only[Qi,D.int.injEq,true_and,and_true]at h;omega) h
theorem tmod10(n:Nat):(n:Int).tmod 10=((n % 10:Nat):Int):=by rw[Int.tmod_eq_emod_of_nonneg (by omega)];omega
theorem tdiv10(n:Nat)(h:n<1000):IntKind.i64.wrap ((n:Int).tdiv 10)=((n / 10:Nat):Int):=by
 have e:(n:Int).tdiv 10=((n / 10:Nat):Int):=by rw[Int.tdiv_eq_ediv_of_nonneg (by omega)];omega
 rw[e];exact w64 (by omega) (by omega)
theorem ok346:(Ac F346).ok Qd 346:=by
 refine BI (S:=λ_=>none) AL fn346 (λ_=>by simp) (λn hn=>?_);have t0:=hexTab (n % 10) (by omega);have t1:=hexTab (n / 10 % 10) (by omega);have t2:=hexTab (n / 10 / 10 % 10) (by omega);have m0:=tmod10 n;have m1:=tmod10 (n / 10);have m2:=tmod10 (n / 10 / 10);have d0:=tdiv10 n hn;have d1:=tdiv10 (n / 10) (by omega);have d2:=tdiv10 (n / 10 / 10) (by omega);have z0:(0:Int)<=((n % 10:Nat):Int):=by omega
 have z1:(0:Int)<=((n / 10 % 10:Nat):Int):=by omega
 have z2:(0:Int)<=((n / 10 / 10 % 10:Nat):Int):=by omega
 have ten:((10:Int)=0)=False:=by simp
 unfold dc346 Ft;by_cases h1:n<10
 ·have g:¬((0:Int)<((n / 10:Nat):Int)):=by omega
  have e:n % 10=n:=by omega
  simp only[↓go1,gB2,go4,reduceIte,Qa,Qb,m0,z0,t0,d0,ten,ne_eq,Qf];refine Af dc346l0.eq_1 ?_;simp only[↓go1,gB3,reduceIte,Qa,Qb,g,h1];rw[e,UInt8.ofNat_toNat]
  all_goals (first|rfl|exact⟨rfl,rfl⟩)
 ·have g:((0:Int)<((n / 10:Nat):Int)):=by omega
  by_cases h2:n<100
  ·have g2:¬((0:Int)<((n / 10 / 10:Nat):Int)):=by omega
   have e:n / 10 % 10=n / 10:=by omega
   rw[e]at t1 m1 z1;simp only[↓go1,gB2,go4,reduceIte,Qa,Qb,m0,z0,t0,d0,ten,ne_eq,Qf];refine Af dc346l0.eq_1 ?_;simp only[↓go1,gB2,go4,reduceIte,Qa,Qb,g,m1,z1,t1,d1,ten,ne_eq,Qf,QD,Qm];refine Af dc346l0.eq_1 ?_;simp only[↓go1,gB3,reduceIte,Qa,Qb,g2,h1,h2,UInt8.ofNat_toNat,List.cons_append,QG]
   all_goals (first|rfl|exact⟨rfl,rfl⟩)
  ·have g2:((0:Int)<((n / 10 / 10:Nat):Int)):=by omega
   have g3:¬((0:Int)<((n / 10 / 10 / 10:Nat):Int)):=by omega
   have e:n / 10 / 10 % 10=n / 100:=by omega
   rw[e]at t2 m2 z2;simp only[↓go1,gB2,go4,reduceIte,Qa,Qb,m0,z0,t0,d0,ten,ne_eq,Qf];refine Af dc346l0.eq_1 ?_;simp only[↓go1,gB2,go4,reduceIte,Qa,Qb,g,m1,z1,t1,d1,ten,ne_eq,Qf,QD,Qm];refine Af dc346l0.eq_1 ?_;simp only[↓go1,gB2,go4,reduceIte,Qa,Qb,g2,m2,z2,t2,d2,ten,ne_eq,Qf,Qr,QD,Qm];refine Af dc346l0.eq_1 ?_;simp only[↓go1,gB3,reduceIte,Qa,Qb,g3,h1,h2,UInt8.ofNat_toNat,List.cons_append,QG]
   all_goals (first|rfl|exact⟨rfl,rfl⟩)
def F317:List D->Option D:=FX (λs:Bs=>[.str s]) (λs=>s.length<=1000000) (λs=> .str (hexB s))
theorem F317_eq{s:Bs}(h:s.length<=1000000):F317 [.str s]=some (.str (hexB s)):=BA (mk:=λs:Bs=>[.str s]) (λa b h=>by simpa using h) h
theorem loop317{S:Summs}{l:Bs}{Q:Ex->St->Prop}(hb:l.length<=1000000)
  (hexit:∀st t,st.s 3= .slice false t (AI (hexB l))->Q (.exit 0) st):
  ∀(n k:Nat)(t:Id) st g,n=l.length-k->k<=l.length->st.s 13= .int .i64 (k:Int)->st.s 12= .int .i64 (l.length:Int)->st.s 11= .slice false [] (AI l)->st.s 3= .slice false t (AI (hexB (l.take k)))->Gw st.m st.c 5 false t->
   A6 S [] dc317l0 Q st g:=by
 intro n;induction n with
 |zero=>
  intro k t st g hn hk h13 h12 h11 h3 hg;refine Af dc317l0.eq_1 ?_;have:¬((k:Int)<l.length):=by omega
  simp only[↓go1,go2,go4,reduceIte,Qb,h13,h12,this];refine hexit _ t ?_;rw[QW (by omega)]at h3;simp only[↓go1,reduceIte,Qa,h3]
 |succ n ih=>
  intro k t st g hn hk h13 h12 h11 h3 hg;refine Af dc317l0.eq_1 ?_;have hlt:((k:Int)<l.length):=by omega
  have hk0:(0:Int)<=(k:Int):=by omega
  have hkl:k<l.length:=by omega
  have hx:(AI l)[(k:Int).toNat]?=some (.int .u8 (l[k].toNat:Int)):=by simp[AI,hkl]
  have hw:IntKind.i64.wrap ((k:Int)+1)=(k:Int)+1:=IntWalk.i64_in _ ⟨by omega,by omega⟩;have hc:=l[k].toNat_lt;have htk:l.take (k+1)=l.take k++[l[k]]:=by rw[List.take_add_one,Qg hkl];rfl
  have hlen:(l.take k).length=k:=by simp;omega
  have h04:(0:Int)<=4:=by decide
  have a1:=shr4 l[k].toNat (by omega);have a2:=and15 l[k].toNat (by omega);have p1:(0:Int)<=((l[k].toNat / 16:Nat):Int):=by omega
  have p2:(0:Int)<=((l[k].toNat % 16:Nat):Int):=by omega
  have q1:(((l[k].toNat / 16:Nat):Int)).toNat=l[k].toNat / 16:=Qf _;have q2:(((l[k].toNat % 16:Nat):Int)).toNat=l[k].toNat % 16:=Qf _;have t1:=hexTab (l[k].toNat / 16) (by omega);have t2:=hexTab (l[k].toNat % 16) (by omega);simp only[↓go1,gB3,reduceIte,Qa,Qb,Qt,Qz,h13,h12,h11,h3,hlt,hk0,hx,h04,a1,a2,p1,p2,q1,q2,t1,t2,false_and,reduceCtorEq];refine An.intro ⟨by rw[Ct,hexB_len,hlen];omega,rfl,hg.grow (by omega)⟩ ?_;simp only[↓go1,gB3,reduceIte,Qa,Qb];refine An.intro (Aj rfl) ?_;simp only[↓go1,gB3,reduceIte,Qa,Qb,h13,hw];refine ih (k+1) [st.c+1+3+8] _ _ (by omega) (by omega) rfl h12 h11 ?_ ?_
  ·rw[htk,hexB_snoc,FV];rfl
  ·exact Gw.new (by simp only;omega)
theorem ok317:(Ac F317).ok Qd 317:=by
 refine BI (S:=λ_=>none) AL fn317 (λ_=>by simp) (λs hb=>?_);have hw:IntKind.i64.wrap (2*(s.length:Int))=2*(s.length:Int):=IntWalk.i64_in _ ⟨by omega,by omega⟩;have b1:(0:Int)<=0:=by decide
 have b2:(0:Int)<=2*(s.length:Int):=by omega
 have b3:2*(s.length:Int)*2<=140737488355328:=by omega
 have e0:(0:Int).toNat=0:=rfl;unfold dc317;simp only[↓go1,gB3,reduceIte,Qa,Qb,hw,b1,b2];refine An.intro (by omega) ?_;simp only[↓go1,go2,reduceIte,Qa,Qb,e0,List.replicate_zero,Ct];refine loop317 (l:=s) hb (λst t' h1=>?_) s.length 0 [4] _ _ rfl (by omega) rfl rfl rfl rfl (.inr ⟨4,rfl,by simp only;omega,by simp[Bq]⟩);simp only[↓go1,gB3,reduceIte,Qa,Qb,h1,DF]
 all_goals (first|rfl|exact⟨rfl,rfl⟩)
end Go.Vd
namespace Go.Vd
open Go.Proofs
end Go.Vd
namespace Go.Proofs
open Go.Shelf
def Tryz.runes_ren:Go.Shelf.Ren:=⟨λ|168=>372|169=>229|240=>324|242=>400|276=>370|278=>410|277=>371|n=>n,λ|31=>28|9=>9|3=>3|4=>4|0=>0|20=>20|21=>21|72=>322|76=>326|70=>320|37=>264|75=>325|127=>402|164=>439|5=>5|80=>216|46=>137|51=>392|n=>n,λ|n=>n⟩
theorem runes168:Go.Proofs.Lays.n168 Qd Tryz.runes_ren:={
 mixed:=by kernel_rfl
 f168:=func372.trans (congrArg some (by kernel_rfl))
 f240:=func324.trans (congrArg some (by kernel_rfl))
 f242:=func400.trans (congrArg some (by kernel_rfl))
 f276:=func370.trans (congrArg some (by kernel_rfl))
 f278:=func410.trans (congrArg some (by kernel_rfl))
 t0:=underlying0
 a0:=isAgg0
 z0:=sizeOf0
 v0:=zeroValue0
 t3:=underlying3
 a3:=isAgg3
 z3:=sizeOf3
 v3:=zeroValue3
 t4:=underlying4
 a4:=isAgg4
 z4:=sizeOf4
 v4:=zeroValue4
 t5:=underlying5
 a5:=isAgg5
 z5:=sizeOf5
 v5:=zeroValue5
 t9:=underlying9
 a9:=isAgg9
 z9:=sizeOf9
 v9:=zeroValue9
 t20:=underlying20
 a20:=isAgg20
 z20:=sizeOf20
 v20:=zeroValue20
 t21:=underlying21
 a21:=isAgg21
 z21:=sizeOf21
 v21:=zeroValue21
 t37:=underlying264
 a37:=isAgg264
 z37:=sizeOf264
 v37:=zeroValue264
 t46:=underlying137
 a46:=isAgg137
 z46:=sizeOf137
 v46:=zeroValue137
 t51:=underlying392
 a51:=isAgg392
 z51:=sizeOf392
 v51:=zeroValue392
 t70:=underlying320
 a70:=isAgg320
 z70:=sizeOf320
 v70:=zeroValue320
 t72:=underlying322
 a72:=isAgg322
 z72:=sizeOf322
 v72:=zeroValue322
 t75:=underlying325
 a75:=isAgg325
 z75:=sizeOf325
 v75:=zeroValue325
 t164:=underlying439
 a164:=isAgg439
 z164:=sizeOf439
 v164:=zeroValue439}
theorem runes169:Go.Proofs.Lays.n169 Qd Tryz.runes_ren:={
 mixed:=by kernel_rfl
 f169:=func229.trans (congrArg some (by kernel_rfl))
 t0:=underlying0
 a0:=isAgg0
 z0:=sizeOf0
 v0:=zeroValue0
 t3:=underlying3
 a3:=isAgg3
 z3:=sizeOf3
 v3:=zeroValue3
 t9:=underlying9
 a9:=isAgg9
 z9:=sizeOf9
 v9:=zeroValue9
 t37:=underlying264
 a37:=isAgg264
 z37:=sizeOf264
 v37:=zeroValue264
 t70:=underlying320
 a70:=isAgg320
 z70:=sizeOf320
 v70:=zeroValue320
 t72:=underlying322
 a72:=isAgg322
 z72:=sizeOf322
 v72:=zeroValue322
 t127:=underlying402
 a127:=isAgg402
 z127:=sizeOf402
 v127:=zeroValue402}
theorem Tryz.runesX:Builder.Extra Qd Tryz.runes_ren:={
 sizeBuilder:=by kernel_rfl
 liesBuilder:=by kernel_rfl
 t5:=underlying5
 a5:=isAgg5
 z5:=sizeOf5
 v5:=zeroValue5
 infoByte:=by kernel_rfl
 cellsByte:=by kernel_rfl
 sizeByte:=by kernel_rfl
 neB5:=by decide}
end Go.Proofs
namespace Go.Ve
open Go.Vd
open Go.Proofs Go.RowKit
def six:List UInt8:=[114,119,100,120,108,115]
def DZ(c:Nat):Nat->List UInt8
 |0=>[]
 |k+1=>DZ c k++(if c / 2 ^ k % 2=1 then [six.getD k 0]else [])
structure J328 (w0:World) (c k:Nat) (a:Act) (w:World):Prop where
 slots:∃x4 x5 x7 x8 x9 x10 x11 x12 x13 x14 x15 x16 x17:Value,a={tmps:=#[.int .u8 (c:Int),undef,.string ⟨#[]⟩,.pointer (some ⟨w0.heap.size,0,none⟩),x4,x5,.pointer (some ⟨w0.heap.size+1,0,none⟩),x7,x8,x9,x10,x11,x12,x13,x14,x15,x16,x17,undef],defers:=[]}
 iter:w.heap[w0.heap.size+1]?=some (.stringIter ⟨#[114,119,100,120,108,115]⟩ k)
 bld:Lib.IsBuilderF 322 5 w0.heap.size w0.heap.size (Lib.byteCells (DZ c k)) w
 bel:Below w0.heap.size w0 w
theorem run_next_at{P:Program}{w:World}{b:Nat}{s:ByteArray}{pos:Nat}{ty:TypeId}(h:w.heap[b]?=some (.stringIter s pos))(hp:pos<s.size):
  (Instr.next (.pointer (some ⟨b,0,none⟩)) true ty).run P w= .ok (.tuple #[.bool true,.int .i64 (pos:Nat),.int .i32 (Utf8.decode s pos).1]) {w with heap:=w.heap.setIfInBounds b (.stringIter s (pos+(Utf8.decode s pos).2))}:=by
 have hget:(getObj b).run P w= .ok (.stringIter s pos) w:=by simp[getObj,Sem.run,h]
 have hset:∀o',(setObj b o').run P w= .ok () {w with heap:=w.heap.setIfInBounds b o'}:=by intro o';simp[setObj,Sem.run,h]
 simp only[Instr.next,Sem.run_bind,hget,Result.andThen_ok,hp,if_true];cases hd:Utf8.decode s pos with
 |mk c wd=>
  simp only[hset,Result.andThen_ok,Sem.run_pure];rfl
theorem run_next_out{P:Program}{w:World}{b:Nat}{s:ByteArray}{pos:Nat}{ty:TypeId}(h:w.heap[b]?=some (.stringIter s pos))(hp:¬pos<s.size):
  (Instr.next (.pointer (some ⟨b,0,none⟩)) true ty).run P w= .ok (.tuple #[.bool false]) w:=by
 have hget:(getObj b).run P w= .ok (.stringIter s pos) w:=by simp[getObj,Sem.run,h]
 simp only[Instr.next,Sem.run_bind,hget,Result.andThen_ok,hp,if_false,Sem.run_pure]
theorem dec_six:∀k,k<6->Utf8.decode ⟨#[114,119,100,120,108,115]⟩ k=((six.getD k 0).toNat,1):=by decide+kernel
theorem bit_six:∀c:Nat,c<64->∀k,k<6->(bits BinOp.and IntKind.u8 ((c:Int) / 2 ^ k) 1==1)=decide (c / 2 ^ k % 2=1):=by decide+kernel
theorem rune_six:∀k,k<6->Lib.runeCells (((six[k]?.getD 0).toNat:Nat):Int)=Lib.byteCells [six.getD k 0]
 |0,_=>rfl
 |1,_=>rfl
 |2,_=>rfl
 |3,_=>rfl
 |4,_=>rfl
 |5,_=>rfl
 |k+6,h=>absurd h (by omega)
theorem pickL_len(c:Nat):∀k,(DZ c k).length<=k
 |0=>Qw _
 |k+1=>by
  have:=pickL_len c k;unfold DZ;rw[Qr];split<;>simp<;>omega
theorem set_other{w:World}{bi j:Nat}{o:Obj}(h:j≠bi):(w.heap.setIfInBounds bi o)[j]?=w.heap[j]?:=by
 rw[Zb,if_neg (λe=>h e.symm)]
theorem bldF_set{w:World}{B b bi:Nat}{bs:List Value}{o:Obj}{s:ByteArray}{p:Nat}(h:Lib.IsBuilderF 322 5 B b bs w)(hi:w.heap[bi]?=some (.stringIter s p)):Lib.IsBuilderF 322 5 B b bs {w with heap:=w.heap.setIfInBounds bi o}:=by
 have key:∀q,Lib.BuilderAtF 322 5 B b q bs w->Lib.BuilderAtF 322 5 B b q bs {w with heap:=w.heap.setIfInBounds bi o}:=by
  rintro q ⟨h1,v,h2,h3,h4⟩;have hb:b≠bi:=λe=>by rw[e,hi]at h2;cases h2
  refine⟨h1,v,by show(w.heap.setIfInBounds bi o)[b]?=_;rw[set_other hb];exact h2,⟨h3.1,?_⟩,h4⟩;rcases h3.2 with h|⟨g,cap,cur,fz,e1,e2,e3,e4⟩
  ·exact .inl h
  ·have hg:g≠bi:=λe=>by rw[e,hi]at e3;cases e3
   exact .inr ⟨g,cap,cur,fz,e1,e2,by show(w.heap.setIfInBounds bi o)[g]?=_;rw[set_other hg];exact e3,e4⟩
 exact h.elim (λx=> .inl (key _ x)) (λx=> .inr (key _ x))
theorem below_set {B bi : Nat} {w w1 : World} {o : Obj} (h : Below B w w1) (hb : B ≤ bi) : Below B w { w1 with heap := w1.heap.setIfInBounds bi o } :=
 ⟨h.os, h.tape, h.output, by show _ ≤ (w1.heap.setIfInBounds bi o).size; rw [Array.size_setIfInBounds]; exact h.size, fun k hk => by
  show (w1.heap.setIfInBounds bi o)[k]? = _
  rw [set_other (by omega)]
  exact h.block k hk⟩
theorem w328(w:World)(c:Nat)(hc:c<64):
  Calls Qd 328 #[.int .u8 (c:Int)] w λe w'=>e= .returned (.string ⟨(DZ c 6).toArray⟩)∧Below w.heap.size w w':=by
 have hz:(w.alloc (Obj.cells #[Value.pointer none,Value.slice none 0 0] 322)).heap.size=w.heap.size+1:=Array.size_push _
 go_enter func328,ntmps328
 go_wp2
 refine wp_loop_n (λn a w'=>∃k,k<=6∧n=6-k∧J328 w c k a w') ?_ (n:=6) ⟨0,by omega,rfl,⟨⟨_,_,_,_,_,_,_,_,_,_,_,_,_,rfl⟩,?_,?_,?_⟩⟩
 ·rintro n a w1 ⟨k,hk,rfl,⟨x4,x5,x7,x8,x9,x10,x11,x12,x13,x14,x15,x16,x17,rfl⟩,hi,hb,hB⟩
  go_wp2
  by_cases h6:k<6
  ·rw[run_next_at hi (by show k<6;exact h6),dec_six k h6];simp only[Result.andThen];rw[Oper.upon_value];have hbit:=bit_six c hc k h6;have hpl:=pickL_len c k;have hi2:(w1.heap.setIfInBounds (w.heap.size+1) (.stringIter ⟨#[114,119,100,120,108,115]⟩ (k+1)))[w.heap.size+1]?=some (.stringIter ⟨#[114,119,100,120,108,115]⟩ (k+1)):=by
    have hlt:w.heap.size+1<w1.heap.size:=(QR.1 hi).1;rw[Zb,if_pos rfl,if_pos hlt]
   have hb2:=bldF_set (o:= .stringIter ⟨#[114,119,100,120,108,115]⟩ (k+1)) hb hi;have hB2:=below_set (o:= .stringIter ⟨#[114,119,100,120,108,115]⟩ (k+1)) hB (Nat.le_succ w.heap.size);by_cases hcn:c / 2 ^ k % 2=1
   ·rw[decide_eq_true hcn]at hbit
    go_wp2_with fail
    refine(Go.Proofs.Any.Builder_WriteRune_k runes168 Tryz.runesX w.heap.size w.heap.size (Lib.byteCells (DZ c k)) _ (by have:=(six[k]?.getD 0).toNat_lt;omega) (by have:=(six[k]?.getD 0).toNat_lt;omega) _ hb2 (by simp[Lib.byteCells];omega) hB2.size).mono ?_;rintro e w3 ⟨rfl,h3,hb3,hk3⟩;rw[rune_six k h6]at h3
    go_wp2
    refine⟨6-(k+1),by omega,k+1,by omega,rfl,⟨⟨_,_,_,_,_,_,_,_,_,_,_,_,_,rfl⟩,?_,?_,hB2.trans hb3⟩⟩
    ·exact hk3 _ _ hi2 (by simp) (λ_ _=>by simp)
    ·refine .inr ?_;have e:DZ c (k+1)=DZ c k++[six.getD k 0]:=by simp only[DZ,hcn,if_true]
     rw[e];have e2:Lib.byteCells (DZ c k++[six.getD k 0])=Lib.byteCells (DZ c k)++Lib.byteCells [six.getD k 0]:=by simp[Lib.byteCells]
     rw[e2];exact h3
   ·rw[decide_eq_false hcn]at hbit
    go_wp2_with fail
    refine⟨6-(k+1),by omega,k+1,by omega,rfl,⟨⟨_,_,_,_,_,_,_,_,_,_,_,_,_,rfl⟩,hi2,?_,hB2⟩⟩;have e:DZ c (k+1)=DZ c k:=by simp only[DZ,hcn,if_false,QT]
    rw[e];exact hb2
  ·rw[run_next_out hi (by show ¬k<6;exact h6)];simp only[Result.andThen];rw[Oper.upon_value];obtain rfl:k=6:=by omega
   go_wp2_with fail
   refine(Go.Proofs.Any.Builder_String_any_f runes169 Tryz.runesX w.heap.size w.heap.size (DZ c 6) w1 hb hB.size).mono ?_;rintro e w3 ⟨rfl,_,hb3⟩
   go_wp2
   go_ret
   exact⟨rfl,hB.trans hb3⟩
 ·have e:=heap_alloc_new (w.alloc (Obj.cells #[Value.pointer none,Value.slice none 0 0] 322)) (.stringIter ⟨#[114,119,100,120,108,115]⟩ 0);rw[hz]at e;exact e
 ·refine .inl ⟨Qw _,.slice none 0 0,?_,World.ownsRowF_nil _ _ _ _,by simp[Value.ownBlock]⟩;have:=heap_alloc_new w (Obj.cells #[Value.pointer none,Value.slice none 0 0] 322);exact(Below.heap_alloc _ _ _ (by rw[hz];omega)).trans this
 ·exact((Below.refl _ w).alloc (Qw _) _).alloc (by rw[hz];omega) _
def eqBs:List UInt8->List UInt8->Bool
 |[],[]=>true
 |a::r,b::s=>a==b&&eqBs r s
 |_,_=>false
theorem eqBs_eq:∀{a b:List UInt8},eqBs a b=true->a=b
 |[],[],_=>rfl
 |a::r,b::s,h=>by
  simp only[eqBs,QY,beq_iff_eq]at h;rw[h.1,eqBs_eq h.2]
 |[],_::_,h=>by cases h
 |_::_,[],h=>by cases h
def lettersN(c:Nat):List UInt8:=
 (if c % 2=1 then [114]else [])++((if c / 2 % 2=1 then [119]else [])++((if c / 4 % 2=1 then [100]else [])++((if c / 8 % 2=1 then [120]else [])++((if c / 16 % 2=1 then [108]else [])++(if c / 32 % 2=1 then [115]else [])))))
theorem pick_letters:∀c:Nat,c<64->DZ c 6=lettersN c:=by decide+kernel
theorem lay_calls{c:Nat}(h:c<64)(w:World):Calls Qd 328 #[.int .u8 (c:Nat)] w λe w'=>e= .returned (.string ⟨(lettersN c).toArray⟩)∧Below w.heap.size w w':=by
 have:=w328 w c h;rw[pick_letters c h]at this;exact this
end Go.Ve
namespace Go.Proofs
open Go.Shelf
def lays156_ren:Go.Shelf.Ren:=⟨λ|156=>221|165=>226|166=>227|169=>229|240=>324|241=>325|276=>370|277=>371|n=>n,λ|31=>28|9=>9|3=>3|4=>4|0=>0|20=>20|72=>322|76=>326|70=>320|37=>264|75=>325|127=>402|164=>439|5=>5|80=>216|n=>n,λ|n=>n⟩
theorem lays156:Go.Proofs.Lays.n156 Qd lays156_ren:={
 mixed:=by kernel_rfl
 f156:=func221.trans (congrArg some (by kernel_rfl))
 f165:=func226.trans (congrArg some (by kernel_rfl))
 f166:=func227.trans (congrArg some (by kernel_rfl))
 f169:=func229.trans (congrArg some (by kernel_rfl))
 f240:=func324.trans (congrArg some (by kernel_rfl))
 f241:=func325.trans (congrArg some (by kernel_rfl))
 f276:=func370.trans (congrArg some (by kernel_rfl))
 f277:=func371.trans (congrArg some (by kernel_rfl))
 t0:=underlying0
 a0:=isAgg0
 z0:=sizeOf0
 v0:=zeroValue0
 t3:=underlying3
 a3:=isAgg3
 z3:=sizeOf3
 v3:=zeroValue3
 t4:=underlying4
 a4:=isAgg4
 z4:=sizeOf4
 v4:=zeroValue4
 t9:=underlying9
 a9:=isAgg9
 z9:=sizeOf9
 v9:=zeroValue9
 t20:=underlying20
 a20:=isAgg20
 z20:=sizeOf20
 v20:=zeroValue20
 t31:=underlying28
 a31:=isAgg28
 z31:=sizeOf28
 v31:=zeroValue28
 t37:=underlying264
 a37:=isAgg264
 z37:=sizeOf264
 v37:=zeroValue264
 t70:=underlying320
 a70:=isAgg320
 z70:=sizeOf320
 v70:=zeroValue320
 t72:=underlying322
 a72:=isAgg322
 z72:=sizeOf322
 v72:=zeroValue322
 t75:=underlying325
 a75:=isAgg325
 z75:=sizeOf325
 v75:=zeroValue325
 t76:=underlying326
 a76:=isAgg326
 z76:=sizeOf326
 v76:=zeroValue326
 t127:=underlying402
 a127:=isAgg402
 z127:=sizeOf402
 v127:=zeroValue402
 t164:=underlying439
 a164:=isAgg439
 z164:=sizeOf439
 v164:=zeroValue439}
theorem Builder_Extra_156:Builder.Extra Qd lays156_ren:={
 sizeBuilder:=by kernel_rfl
 liesBuilder:=by kernel_rfl
 t5:=underlying5
 a5:=isAgg5
 z5:=sizeOf5
 v5:=zeroValue5
 infoByte:=by kernel_rfl
 cellsByte:=by kernel_rfl
 sizeByte:=by kernel_rfl
 neB5:=by decide}
end Go.Proofs
namespace Go.Vd
open Go.Proofs Go.RowKit
theorem join221:joinQ.ok Qd 221:=joinQ_ok lays156 Builder_Extra_156 ⟨_,func221,by kernel_rfl,by kernel_rfl⟩
theorem joinQ_ex{m:Mem}{i fr:Id}{n:Nat}{l:List Bs}(hn:n=l.length)(h:∀k x,l[k]?=some x->m i k=some (.str x))(h1:l.length<=1000)(h2:Cw l<=1000000):
  joinQ.ex ([.row i n,.str [44]]++[]) m fr=some (.str (De l),[]):=by
 subst hn;simp only[joinQ,QT];rw[strR_of (j:=0) (λk x hx=>by rw[QF];exact h k x hx),Qe,if_pos ⟨h1,h2⟩]
theorem RI.strs{r:Id}{m0 m:Mem}{l:List Bs}(h:RI [] r m0 m l l.length):∀k x,l[k]?=some x->m r k=some (.str x):=by
 intro k x hx;have hk:=(Qy.1 hx).1;rw[h.row k hk,if_pos hk];simp[QU,hx]
theorem sumL_le{l:List Bs}{b:Nat}(h:∀x∈l,x.length<=b):Cw l<=b*l.length:=by
 induction l with
 |nil=>simp[Cw]
 |cons x r ih=>
  have h1:=h x (List.mem_cons_self ..);have h2:=ih λy hy=>h y (List.mem_cons_of_mem _ hy)
  simp only[Cw,Qt,Nat.mul_add];omega
theorem numB_len(n:Nat):(Ft n).length<=3:=by
 unfold Ft;split
 ·simp
 ·split<;>simp
def Fs(l:List Int):List Bs:=l.map λx=>Ft x.toNat
theorem Dy(l:List Int):(Fs l).length=l.length:=Qv ..
def F348:List D->Option D:=FX (λp:Bool×List Int=>[.slice p.1 [] (AR p.2)]) (λp=>p.2.length<=1000∧∀x∈p.2,0<=x∧x<1000) (λp=> .str (De (Fs p.2)))
theorem F348_eq{nl:Bool}{l:List Int}(h:l.length<=1000)(h2:∀x∈l,0<=x∧x<1000):F348 [.slice nl [] (AR l)]=some (.str (De (Fs l))):=
 BA (mk:=λp:Bool×List Int=>[.slice p.1 [] (AR p.2)]) (a:=(nl,l)) (λa b h=>by
  simp only[Qi,D.slice.injEq,true_and,and_true]at h;exact Zv h.1 (intsD_inj h.2)) ⟨h,h2⟩
theorem loop348{S:Summs}{l:List Int}{nl:Bool}{m0:Mem}{Q:Ex->St->Prop}(hb:l.length<=1000)(hx:∀x∈l,0<=x∧x<1000)(s346:S 346=some (Ac F346))
  (hexit:∀st,st.s 3= .row [3] l.length->RI [] [3] m0 st.m (Fs l) l.length->Q (.exit 0) st):
  ∀(f j:Nat) st g,l.length=j+f->st.s 3= .row [3] l.length->st.s 9= .slice nl [] (AR l)->st.s 10= .int .i64 (l.length:Int)->st.s 11= .int .i64 (j:Int)->RI [] [3] m0 st.m (Fs l) j->A6 S [] dc348l0 Q st g:=by
 intro f;induction f with
 |zero=>
  intro j st g hf h3 h9 h10 h11 I;refine Af dc348l0.eq_1 ?_;have:¬((j:Int)<l.length):=by omega
  simp only[↓go1,go2,go4,reduceIte,Qb,h10,h11,this];exact hexit _ h3 (by rw[show l.length=j by omega];exact I)
 |succ f ih=>
  intro j st g hf h3 h9 h10 h11 I;refine Af dc348l0.eq_1 ?_;have hj:j<l.length:=by omega
  have hlt:((j:Int)<l.length):=by omega
  have hj0:(0:Int)<=(j:Int):=by omega
  have hw:IntKind.i64.wrap ((j:Int)+1)=((j+1:Nat):Int):=w64 (by omega) (by omega);have hmem:=hx l[j] (Zk hj);obtain⟨n,hn⟩:∃n:Nat,l[j]=(n:Int):=⟨l[j].toNat,by omega⟩;have hat:(AR l)[j]?=some (.int .i64 (n:Int)):=by simp[AR,Qg hj,hn]
  have hg:(Fs l).getD j []=Ft n:=by simp[Fs,Qg hj,hn]
  have h346:=F346_eq (n:=n) (by omega);have hrow:=I.row j (by rw[Dy];exact hj);rw[if_neg (by omega)]at hrow;obtain⟨st_s,st_m,st_c⟩:=st;simp only at h3 h9 h10 h11 hrow I;simp only[↓go1,gB2,go4,reduceIte,Qa,Qb,h3,h9,h10,h11,hlt,hj0,hw,Qf,hat,hrow,Aa s346,h346,Ao,Ap,and_self,Qe,Qk,Qo];refine ih (j+1) _ _ (by omega) h3 h9 h10 rfl ?_;rw[←hg];exact I.fill (List.nil_suffix)
theorem ok348:(Ac F348).ok Qd 348:=by
 obtain⟨S,hS,hl⟩:=A5 (Ab ok346 (Ab join221 Ad));have s346:=hl 346 _ rfl;have s221:=hl 221 _ rfl;clear hl;refine BI hS fn348 (λ_=>by simp) (λp hp=>?_);obtain⟨nl,l⟩:=p;obtain⟨hl,hx⟩:=hp;simp only at hl hx;have hn0:((0:Int)<=(l.length:Int)):=by omega
 have hnb:((l.length:Int)*(((16:Nat):Int)+1)<=140737488355328)=True:=eq_true (by omega);unfold dc348;simp only[↓go1,gB2,reduceIte,Qa,Qb,hn0,hnb,BY,Qf,Zr,and_self];refine loop348 (l:=l) (nl:=nl) (m0:=λ_ _=>none) hl hx s346 (λst h3 I=>?_) l.length 0 _ _ (by omega) rfl rfl rfl rfl ?_
 ·simp only[↓go1,go2,go4,reduceIte,Qb,h3];rw[Ah s221];rw[←Dy]at I;have hs:Cw (Fs l)<=1000000:=by
   have:=sumL_le (l:=Fs l) (b:=3) λx hx=>by
    obtain⟨y,_,rfl⟩:=QC.1 hx;exact numB_len _
   rw[Dy]at this;omega
  refine Got.intro (joinQ_ex (Dy l).symm I.strs (by rw[Dy];exact hl) hs) ?_;simp only[↓go1,gB3,reduceIte,Qa,Qb]
  all_goals (first|rfl|exact⟨rfl,rfl⟩)
 ·exact RI.start (Dy l).symm
open Classical in
def F328:List D->Option D
 |[.int .u8 c]=>if 0<=c∧c<64 then some (.str (Go.Ve.lettersN c.toNat))else none
 |_=>none
theorem ok328:(Ac F328).ok Qd 328:=by
 refine⟨⟨_,func328,by kernel_rfl,by kernel_rfl⟩,λds m m' fr _=>rfl,?_⟩;intro B w0 w m g fr ds vs r u hi hfresh hl hrep hex;simp only[Ac]at hex;split at hex
 ·rw[QB]at hex;obtain⟨r',hr,hex⟩:=hex;simp only[QQ]at hex;obtain⟨rfl,rfl⟩:=hex;unfold F328 at hr;split at hr
  ·rename_i c e;split at hr
   ·rename_i hc;simp only[Qc]at hr;subst hr
    match ds,vs,hl with
    |[d],[v],_=>
     have hd:d= .int .u8 c:=by
      simp only[Q1,QK,Qi,and_true]at e;cases d<;>simp[D.un]at e;rw[e.1,e.2]
     subst hd;have hv:=(hrep 0 _ v rfl rfl).int_inv;subst hv;have hcc:((c.toNat:Nat):Int)=c:=Int.toNat_of_nonneg hc.1;have:=Go.Ve.lay_calls (c:=c.toNat) (by omega) w;rw[hcc]at this;refine this.mono ?_;rintro e w' ⟨rfl,hb⟩;exact⟨_,g.over w w',rfl,hi.over hb,Ext.over hi.gz hb,.str _,λi hf _=>hf⟩
    |[],_,_=>simp at e
    |_::_::_,_,_=>simp at e
   ·cases hr
  ·cases hr
 ·cases hex
theorem rulesE_zero{l:List Rl}:∀f j,Db l f j=0->∀i,j<=i->i<j+f->i<l.length->(Bl l i).2<=63
 |0,j,_,i,h1,h2,_=>by omega
 |f+1,j,h,i,h1,h2,hi=>by
  unfold Db at h;rw[if_pos (by omega)]at h;split at h
  ·rename_i hc;exact absurd h hc
  ·rename_i hc;rcases Nat.eq_or_lt_of_le h1 with rfl|h1
   ·have hc:Fl (Bl l j) (l.take j)=0:=by
     rcases Classical.em (Fl (Bl l j) (l.take j)=0)with h|h
     ·exact h
     ·exact absurd h hc
    unfold Fl at hc;split at hc
    ·rename_i h9;exact absurd hc h9.2
    ·split at hc
     ·omega
     ·omega
   ·exact rulesE_zero f (j+1) h i (by omega) (by omega) hi
theorem polE_zero{l:List Rl}(h:Cq l=0):l.length<=4∧∀r∈l,r.2<=63:=by
 unfold Cq at h;split at h
 ·cases h
 ·refine⟨by omega,λr hr=>?_⟩;obtain⟨i,hi,rfl⟩:=Q_ hr;have:=rulesE_zero l.length 0 h i (Ql _) (by omega) hi;simpa[Bl,Qg hi]using this
def ruleB(r:Rl):Bs:=r.1++[58]++Go.Ve.lettersN r.2.toNat
def B5(l:List Rl):List Bs:=l.map ruleB
theorem Cp(l:List Rl):(B5 l).length=l.length:=Qv ..
theorem EP(n:Nat):(Go.Ve.lettersN n).length<=6:=by
 unfold Go.Ve.lettersN;have h:∀(c:Prop)[Decidable c](x:UInt8),(if c then [x]else []).length<=1:=by
  intro c _ x;split<;>simp
 simp only[Qr];have h1:=h (n % 2=1) 114;have h2:=h (n / 2 % 2=1) 119;have h3:=h (n / 4 % 2=1) 100;have h4:=h (n / 8 % 2=1) 120;have h5:=h (n / 16 % 2=1) 108;have h6:=h (n / 32 % 2=1) 115;omega
theorem loop232{S:Summs}{l:List Rl}{nl:Bool}{m0:Mem}{Q:Ex->St->Prop}(hb:l.length<=4)(hx:∀r∈l,r.1.length<=1000∧0<=r.2∧r.2<64)(s328:S 328=some (Ac F328))
  (hexit:∀st,st.s 5= .row [9] l.length->RI [] [9] m0 st.m (B5 l) l.length->Q (.exit 0) st):
  ∀(f j:Nat) st g,l.length=j+f->10<=st.c->st.s 5= .row [9] l.length->st.s 16= .slice nl [] (Al l)->st.s 17= .int .i64 (l.length:Int)->st.s 18= .int .i64 (j:Int)->RI [] [9] m0 st.m (B5 l) j->A6 S [] dc232l0 Q st g:=by
 intro f;induction f with
 |zero=>
  intro j st g hf hc h5 h16 h17 h18 I;refine Af dc232l0.eq_1 ?_;have:¬((j:Int)<l.length):=by omega
  simp only[↓go1,go2,go4,reduceIte,Qb,h17,h18,this];exact hexit _ h5 (by rw[show l.length=j by omega];exact I)
 |succ f ih=>
  intro j st g hf hc h5 h16 h17 h18 I;refine Af dc232l0.eq_1 ?_;have hj:j<l.length:=by omega
  have hlt:((j:Int)<l.length):=by omega
  have hj0:(0:Int)<=(j:Int):=by omega
  have hw:IntKind.i64.wrap ((j:Int)+1)=((j+1:Nat):Int):=w64 (by omega) (by omega);obtain⟨hm1,hm2,hm3⟩:=hx l[j] (Zk hj);have hat:(Al l)[j]?=some (.agg [.str l[j].1,.int .u8 l[j].2]):=by simp[Al,rlD,Qg hj]
  have hg:(B5 l).getD j []=ruleB l[j]:=by simp[B5,Qg hj]
  generalize l[j]=r at hm1 hm2 hm3 hat hg;have h328:F328 [.int .u8 r.2]=some (.str (Go.Ve.lettersN r.2.toNat)):=if_pos ⟨hm2,hm3⟩;have hrow:=I.row j (by rw[Cp];exact hj);rw[if_neg (by omega)]at hrow;have hll:=EP r.2.toNat;have l1:(r.1.length+1<=9223372036854775807)=True:=eq_true (by omega);have l2:(r.1.length+1+(Go.Ve.lettersN r.2.toNat).length<=9223372036854775807)=True:=eq_true (by omega);have hne1:([st.c+1+3]=([9]:Id))=False:=eq_false (by simp;omega);have hne2:(([9]:Id)=[st.c+1+3])=False:=eq_false (by simp;omega);obtain⟨st_s,st_m,st_c⟩:=st;simp only at h5 h16 h17 h18 hrow I hc hne1 hne2;simp only[↓go1,gB0,reduceIte,Qa,Qb,h5,h16,h17,h18,hlt,hj0,Qf,hat,hrow,Aa s328,h328,hne2,l1,l2,Qw,Qr,Ag,Ao,Ap,QL,Qe,Qp,Qu,Qk,false_and];refine An.intro (Aj rfl) ?_;simp only[↓go1,go2,go3,reduceIte,Qa,Qb,h18,hw];refine ih (j+1) _ _ (by omega) (by simp only;omega) h5 h16 h17 rfl ?_;have hb':r.1++[58]++Go.Ve.lettersN r.2.toNat=(B5 l).getD j []:=hg.symm;rw[hb'];exact((I.put (by simp;omega)).put (by simp;omega)).fill (List.nil_suffix)
def F232:List D->Option D:=FX (λp:Bool×List Rl=>[.slice p.1 [] (Al p.2)]) (λp=>p.2.length<=1000000∧∀r∈p.2,r.1.length<=1000∧0<=r.2)
 (λp=> .tup [.str (if Cq p.2=0 then De (B5 p.2)else []),.int .i64 (Cq p.2)])
theorem F232_eq{nl:Bool}{l:List Rl}(h:l.length<=1000000)(h2:∀r∈l,r.1.length<=1000∧0<=r.2):F232 [.slice nl [] (Al l)]=some (.tup [.str (if Cq l=0 then De (B5 l)else []),.int .i64 (Cq l)]):=
 BA (mk:=λp:Bool×List Rl=>[.slice p.1 [] (Al p.2)]) (a:=(nl,l)) (λa b h=>by
  simp only[Qi,D.slice.injEq,true_and,and_true]at h;exact Zv h.1 (rlsD_inj h.2)) ⟨h,h2⟩
open Classical in
theorem Fpol_eq'{nl:Bool}{l:List Rl}(h:l.length<=1000000)(h2:∀r∈l,r.1.length<=1000∧0<=r.2):Fpol [.slice nl [] (Al l)]=some (.int .i64 (Cq l)):=by
 have hc:Al l=Al (A7 (Al l))∧(Al l).length<=1000000∧By (A7 (Al l)):=by
  rw[AN,Au];exact⟨rfl,h,λr hr=>QX (h2 r hr).1 (by omega)⟩
 show(if _ then _ else _)=_;rw[if_pos hc,AN]
theorem ok232:(Ac F232).ok Qd 232:=by
 obtain⟨S,hS,hl⟩:=A5 (Ab ok214 (Ab ok328 (Ab join221 Ad)));have s214:=hl 214 _ rfl;have s328:=hl 328 _ rfl;have s221:=hl 221 _ rfl;clear hl;refine BI hS fn232 (λ_=>by simp) (λp hp=>?_);obtain⟨nl,l⟩:=p;obtain⟨hl,hx⟩:=hp;simp only at hl hx;have h214:=Fpol_eq' (nl:=nl) hl hx;have hz:=polE_zero (l:=l);simp only;unfold dc232;generalize Cq l=e at h214 hz;by_cases he:e=0
 ·subst he;obtain⟨h4,h63⟩:=hz rfl;have hn0:((0:Int)<=(l.length:Int)):=by omega
  have hnb:((l.length:Int)*(((16:Nat):Int)+1)<=140737488355328)=True:=eq_true (by omega);simp only[↓go1,gB2,go4,reduceIte,Qa,Qb,Aa s214,h214,hn0,hnb,Au,Qf,Zr,and_self];refine loop232 (l:=l) (nl:=nl) (m0:=λ_ _=>none) h4 (λr hr=>⟨(hx r hr).1,(hx r hr).2,by have:=h63 r hr;omega⟩) s328 (λst h5 I=>?_) l.length 0 _ _ (by omega) (by simp only;omega) rfl rfl rfl rfl ?_
  ·simp only[↓go1,go2,go4,reduceIte,Qb,h5];rw[Ah s221];rw[←Cp]at I;have hs:Cw (B5 l)<=1000000:=by
    have:=sumL_le (l:=B5 l) (b:=1007) λx hx'=>by
     obtain⟨y,hy,rfl⟩:=QC.1 hx';have h1:=(hx y hy).1;have h2:=EP y.2.toNat;simp only[ruleB,Qr,Qt,Qz];omega
    rw[Cp]at this;omega
   refine Got.intro (joinQ_ex (Cp l).symm I.strs (by rw[Cp];omega) hs) ?_;simp only[↓go1,gB3,reduceIte,Qa,Qb]
   all_goals (first|rfl|exact⟨rfl,rfl⟩)
  ·exact RI.start (Cp l).symm
 ·simp only[↓go1,gB3,reduceIte,Qa,Qb,Aa s214,h214,he,and_self]
  all_goals (first|rfl|exact⟨rfl,rfl⟩)
end Go.Vd
end
