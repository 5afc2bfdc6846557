/-
  A part of the proof: the layers over the model. Nothing in it is assumed.
-/
import Derived.Test.YtfocnoaoekkloaaGreatDoorRightsP2
import Derived.Test.YtfocnoaoekkloaaGreatDoorProg
import Init
import Derived.Shelf.Strings.OnBuilder
import Derived.Lib.AppendZeros
import Derived.WalkKit

set_option linter.unusedSimpArgs false
set_option linter.unusedVariables false
set_option linter.defProp false
set_option maxHeartbeats 4000000
set_option maxRecDepth 100000
open Option.some renaming injEq→Qa,inj→Zf
open Go.Proofs.Tryz renaming prog→Qb
open Option renaming bind_some→Qc,isSome_some→Qk,map_eq_some_iff→Qr,bind_eq_some_iff→QN,map_some→QO,getD_some→Zp
open List renaming getElem?_eq_getElem→Qd,getElem?_cons_zero→Qg,drop_zero→Qj,head?_cons→Qp,getElem?_eq_some_iff→Qs,take_succ_cons→Qt,length_map→Qu,drop_succ_cons→Qv,all_eq_true→Qw,length_append→Qx,take_zero→Qy,length_cons→Qz,getElem?_cons_succ→QB,length_take→QD,mem_map→QF,map_congr_left→QG,mem_of_getElem?→QI,getElem?_append_right→QJ,nil_append→QK,length_nil→QL,map_map→QQ,map_nil→QR,all_nil→QS,length_drop→QU,getElem?_append_left→QV,getElem?_map→QW,getD→QX,drop→Q0,getElem?_take_of_lt→Q1,append_nil→Q2,findIdx?_eq_some_iff_getElem→Q5,drop_of_length_le→Q6,take_succ_eq_append_getElem→Q7,append_assoc→Q9,take_of_length_le→Za,suffix_cons→Zc,take→Zd,map_cons→Ze,all_append→Zg,getElem_of_mem→Zh,drop_eq_getElem_cons→Zl,flatMap_cons→Zm,all_cons→Zn,map_append→Zq,length_set→Zr,set_append_right→Zs,length_take_le→Zu
open Int renaming toNat_natCast→Qe,eq_ofNat_of_zero_le→QH,cast_ofNat_Int→Zj,lt_irrefl→Zo
open Nat renaming reduceEqDiff→Qf,reduceAdd→Qh,zero_le→Ql,zero_ne_one→Qm,succ_ne_zero→Qn,sub_zero→Qq,le_refl→QA,zero_add→QC,le_of_ble_eq_true→QM,one_ne_zero→QP,reduceLT→QT,reduceLeDiff→QY,lt_or_eq_of_le→Q4,le_trans→Q8,le_of_lt_succ→Zb,add_zero→Zi,lt_or_ge→Zv
open List.cons renaming injEq→Qi
open And renaming intro→Qo
open Prod.mk renaming injEq→QE
open Array renaming getElem?_eq_some_iff→QZ
open Bool renaming and_eq_true→Q_,false_ne_true→Q3,false_eq_true→Zk,false_and→Zt
open Go.Proofs.Tryz
noncomputable section
namespace Go.Vd
open Go.Proofs Go.RowKit
def longR(s:Bs)(l:List Bs):Nat->Nat->Int->Int->Int
 |0,_,b,_=>b
 |f+1,j,b,n=>if n<((l.getD j []).length:Int)∧A4 s (l.getD j [])=true then longR s l f (j+1) j (l.getD j []).length else longR s l f (j+1) b n
def ED(s:Bs)(l:List Bs):Int:=longR s l l.length 0 (-1) (-1)
def loop198{S:Summs}{ns:Id}{s:Bs}{l:List Bs}{nl:Bool}{t:Id}{Q:Ex->St->Prop}{e:Int}(s206:S 206=some (Ac F206))(hb:l.length<=1000000)
  (hexit:∀st,st.s 5= .int .i64 e->Q (.exit 0) st):
  ∀(f j:Nat)(b n:Int) st g,l.length=j+f->longR s l f j b n=e->st.s 0= .str s->st.s 5= .int .i64 b->st.s 6= .int .i64 n->st.s 9= .slice nl t (l.map .str)->st.s 10= .int .i64 (l.length:Int)->st.s 11= .int .i64 (j:Int)->A8 S ns dc198l0 Q st g:=by
 intro f;induction f with
 |zero=>
  intro j b n st g hf he h0 h5 h6 h9 h10 h11;refine Ae dc198l0.eq_1 ?_;have:¬((j:Int)<l.length):=by omega
  simp only[↓go1,go2,go4,reduceIte,Qh,h10,h11,this];exact hexit _ (by rw[←he];exact h5)
 |succ f ih=>
  intro j b n st g hf he h0 h5 h6 h9 h10 h11;refine Ae dc198l0.eq_1 ?_;unfold longR at he;have hj:j<l.length:=by omega
  have hlt:((j:Int)<l.length):=by omega
  have hj0:=nJ (j:=j);have hw:=wJ (j:=j) (by omega);have hat:(l.map D.str)[j]?=some (.str (l.getD j [])):=by simp[hj]
  generalize l.getD j []=p at hat he;have h206:F206 [.str s,.str p]=some (.bool (A4 s p)):=rfl;obtain⟨st_s,st_m,st_c⟩:=st;simp only at h0 h5 h6 h9 h10 h11;by_cases hn:n<(p.length:Int)
  ·cases hp:A4 s p with
   |true=>
    rw[if_pos ⟨hn,hp⟩]at he;simp only[↓go1,gB2,go4,simprocAttr,h0,h9,h10,h11,h6,hlt,hj0,hw,Qe,hat,Aa s206,h206,Qp,hn,hp];exact ih (j+1) _ _ _ _ (by omega) he h0 rfl rfl h9 h10 rfl
   |false=>
    rw[if_neg (by rw[hp];simp)]at he;simp only[↓go1,gB2,go4,simprocAttr,h0,h9,h10,h11,h6,hlt,hj0,hw,Qe,hat,Aa s206,h206,Qp,hn,hp];exact ih (j+1) _ _ _ _ (by omega) he h0 h5 h6 h9 h10 rfl
  ·rw[if_neg (λh=>hn h.1)]at he;simp only[↓go1,gB2,go4,simprocAttr,h9,h10,h11,h6,hlt,hj0,hw,Qe,hat,Qp,hn];exact ih (j+1) _ _ _ _ (by omega) he h0 h5 h6 h9 h10 rfl
def F198:List D->Option D
 |[.str s,.slice _ _ xs]=>(FU xs).bind λl=>if l.length<=1000000 then some (.int .i64 (ED s l))else none
 |_=>none
def F198_eq{s:Bs}{nl:Bool}{t:Id}{l:List Bs}(hl:l.length<=1000000):F198 [.str s,.slice nl t (l.map .str)]=some (.int .i64 (ED s l)):=by
 simp only[F198,FT,Qc];exact if_pos hl
def ok198:(Ac F198).ok Qb 198:=by
 obtain⟨S,hS,hl⟩:=A7 (Ab ok206 Ad);have s206:=hl 206 _ rfl;clear hl;refine Ay (S:=S) hS fn198 (λds r h=>?_) (λds r h=>?_)
 ·unfold F198 at h;split at h
  ·simp
  ·cases h
 ·unfold F198 at h;split at h
  ·rename_i s nl t xs;rw[QN]at h;obtain⟨l,hs,h⟩:=h;obtain rfl:=EV hs;split at h
   ·rename_i hl;simp only[Qa]at h;subst h;unfold dc198;simp only[↓go1,go2,simprocAttr,Qu];refine loop198 (s:=s) (l:=l) (nl:=nl) (t:=t) (e:=ED s l) s206 hl (λst h1=>?_) l.length 0 _ _ _ _ (by omega) rfl rfl rfl rfl rfl rfl rfl;simp only[↓go1,gB3,simprocAttr,h1]
   ·cases h
  ·cases h
def BA(l:List Rl)(s:Bs):Int:=if ED s (l.map (·.1))<0 then 0 else(Bl l (ED s (l.map (·.1))).toNat).2
def longR_lt(s:Bs)(l:List Bs):∀(f j:Nat)(b n:Int),l.length=j+f->b<l.length->longR s l f j b n<l.length
 |0,j,b,n,hf,hb=>by simpa[longR]using hb
 |f+1,j,b,n,hf,hb=>by
  unfold longR;split
  ·exact longR_lt s l f (j+1) _ _ (by omega) (by omega)
  ·exact longR_lt s l f (j+1) _ _ (by omega) hb
def longE_lt(s:Bs)(l:List Bs):ED s l<l.length:=longR_lt s l _ _ _ _ (by omega) (by omega)
open Classical in
def F95:List D->Option D
 |[.slice _ _ xs,.str s]=>if xs=An (A9 xs)∧xs.length<=1000000 then some (.int .u8 (BA (A9 xs) s))else none
 |_=>none
open Classical in
def F95_eq{nl:Bool}{t:Id}{l:List Rl}{s:Bs}(hl:l.length<=1000000):F95 [.slice nl t (An l),.str s]=some (.int .u8 (BA l s)):=by
 have h:An l=An (A9 (An l))∧(An l).length<=1000000:=by rw[AN,Av];exact⟨rfl,hl⟩
 show(if _ then _ else _)=_;rw[if_pos h,AN]
open Classical in
def F95_inv{ds:List D}{r:D}(h:F95 ds=some r):∃nl t l s,ds=[.slice nl t (An l),.str s]∧l.length<=1000000∧r= .int .u8 (BA l s):=by
 unfold F95 at h;split at h
 ·rename_i nl t xs s;split at h
  ·rename_i hc;obtain⟨h1,h2⟩:=hc;simp only[Qa]at h;subst h;refine⟨nl,t,A9 xs,s,by rw[←h1],?_,rfl⟩;rw[h1,Av]at h2;exact h2
  ·cases h
 ·cases h
def ok95:(Ac F95).ok Qb 95:=by
 obtain⟨S,hS,hl⟩:=A7 (Ab ok199 (Ab ok198 Ad));have s199:=hl 199 _ rfl;have s198:=hl 198 _ rfl;clear hl;refine Ay (S:=S) hS fn95 (λds r h=>?_) (λds r h=>?_)
 ·obtain⟨nl,t,l,s,rfl,_⟩:=F95_inv h;simp
 ·obtain⟨nl,t,l,s,rfl,hl,rfl⟩:=F95_inv h;have e199:∀m fr,(rowS F199).ex [.slice nl t (An l)] m fr=some (.slice false [] ((l.map (·.1)).map .str),[]):=by
   intro m fr;simp only[rowS,F199_eq hl,QO]
  have e198:F198 [.str s,.slice false [] ((l.map (·.1)).map .str)]=some (.int .i64 (ED s (l.map (·.1)))):=F198_eq (by simpa using hl);have hall:((l.map (·.1)).map D.str).all D.calm=true:=by rw[Qw];intro x hx;obtain⟨y,_,rfl⟩:=QF.1 hx;rfl
  have hun:((l.map (·.1)).map D.str).map D.un=(l.map (·.1)).map D.str:=by rw[QQ];exact QG λ_ _=>rfl
  unfold dc95 BA;have hlt:=longE_lt s (l.map (·.1));rw[Qu]at hlt;generalize ED s (l.map (·.1))=i at e198 hlt;by_cases hi:i<0
  ·simp only[↓go1,gB3,simprocAttr,Ag s199,e199,Aa s198,e198,hi]
  ·obtain⟨j,rfl⟩:=QH (show 0<=i by omega);have hj:j<l.length:=by omega
   have hj0:=nJ (j:=j);have hat:(An l)[j]?=some (.agg [.str (Bl l j).1,.int .u8 (Bl l j).2]):=Dm hj;simp only[↓go1,gB2,go4,simprocAttr,Ag s199,e199,Aa s198,e198,hi,hj0,Qe,hat,and_self,Qj,Qv,Qp]
def loop220{S:Summs}{ns:Id}{s:Bs}{l:List Rl}{nl:Bool}{t:Id}{Q:Ex->St->Prop}{e:Int}(s111:S 111=some (Ac F111))(hb:l.length<=1000000)(hp0:By l)(hs:s.length<=1000000)
  (hexit:∀st,st.s 0= .slice nl t (An l)->st.s 5= .int .i64 e->Q (.exit 0) st):
  ∀(f j:Nat)(b n:Int) st g,l.length=j+f->b<l.length->(b<0∧n=-1∨0<=b∧n=((Bl l b.toNat).1.length:Int))->longR s (l.map (·.1)) f j b n=e->st.s 0= .slice nl t (An l)->st.s 1= .str s->st.s 5= .int .i64 b->st.s 6= .int .i64 (j:Int)->A8 S ns dc220l0 Q st g:=by
 intro f;induction f with
 |zero=>
  intro j b n st g hf hbl hbn he h0 h1 h5 h6;refine Ae dc220l0.eq_1 ?_;have:¬((j:Int)<l.length):=by omega
  simp only[↓go1,go2,go4,simprocAttr,h0,h6,this,Av];exact hexit _ h0 (by rw[←he];exact h5)
 |succ f ih=>
  intro j b n st g hf hbl hbn he h0 h1 h5 h6;refine Ae dc220l0.eq_1 ?_;unfold longR at he;have hj:j<l.length:=by omega
  have hlt:((j:Int)<l.length):=by omega
  have hj0:=nJ (j:=j);have hw:=wJ (j:=j) (by omega);have hat:(An l)[j]?=some (.agg [.str (Bl l j).1,.int .u8 (Bl l j).2]):=Dm hj;have hg:(l.map (·.1)).getD j []=(Bl l j).1:=by simp[Bl,Qd hj]
  have hself:(j:Int)<0∧(((Bl l j).1.length:Nat):Int)=-1∨0<=(j:Int)∧(((Bl l j).1.length:Nat):Int)=((Bl l (j:Int).toNat).1.length:Int):= .inr ⟨by omega,rfl⟩;rw[hg]at he;have hpl:=prefB_at hp0 hj;generalize (Bl l j).1=p at hat he hself hpl;have h111:F111 [.str s,.str p]=some (.bool (A4 s p)):=if_pos ⟨hs,hpl⟩;obtain⟨st_s,st_m,st_c⟩:=st;simp only at h0 h1 h5 h6;rcases hbn with ⟨hb0,rfl⟩|⟨hb0,hn⟩
  ·cases hp:A4 s p with
   |true=>
    rw[if_pos ⟨by omega,hp⟩]at he;simp only[↓go1,gB2,go4,simprocAttr,h0,h1,h5,h6,hlt,hj0,Qe,hat,Av,Aa s111,h111,Ql,Qj,Qp,hp,hb0];refine Ao.intro (Aj rfl) ?_;simp only[↓go1,go2,go3,simprocAttr,h6,hw];exact ih (j+1) _ _ _ _ (by omega) (by omega) hself he h0 h1 rfl rfl
   |false=>
    rw[if_neg (by rw[hp];simp)]at he;simp only[↓go1,gB2,go4,simprocAttr,h0,h1,h6,hlt,hj0,Qe,hat,Av,Aa s111,h111,Ql,Qj,Qp,hp];refine Ao.intro (Aj rfl) ?_;simp only[↓go1,go2,go3,simprocAttr,h6,hw];exact ih (j+1) _ _ _ _ (by omega) hbl (.inl ⟨hb0,rfl⟩) he h0 h1 h5 rfl
  ·obtain⟨i,rfl⟩:=QH hb0;rw[Qe]at hn;have hi:i<l.length:=by omega
   have hnb:¬((i:Int)<0):=by omega
   have hati:(An l)[i]?=some (.agg [.str (Bl l i).1,.int .u8 (Bl l i).2]):=Dm hi;subst hn;have hkeep:(i:Int)<0∧(((Bl l i).1.length:Nat):Int)=-1∨0<=(i:Int)∧(((Bl l i).1.length:Nat):Int)=((Bl l (i:Int).toNat).1.length:Int):= .inr ⟨by omega,rfl⟩;generalize (Bl l i).1=pi at hati he hkeep;cases hp:A4 s p with
   |true=>
    by_cases hn:((pi.length:Int)<(p.length:Int))
    ·rw[if_pos ⟨hn,hp⟩]at he;simp only[↓go1,gB2,go4,simprocAttr,h0,h1,h5,h6,hlt,hj0,Qe,hat,Av,Aa s111,h111,Ql,Qj,Qp,hp,hnb,hati,hn,Ql,Int.natCast_nonneg];refine Ao.intro (Aj rfl) ?_;simp only[↓go1,go2,go3,simprocAttr,h6,hw];exact ih (j+1) _ _ _ _ (by omega) (by omega) hself he h0 h1 rfl rfl
    ·rw[if_neg (λh=>hn h.1)]at he;simp only[↓go1,gB2,go4,simprocAttr,h0,h1,h5,h6,hlt,hj0,Qe,hat,Av,Aa s111,h111,Ql,Qj,Qp,hp,hnb,hati,hn,Int.natCast_nonneg];refine Ao.intro (Aj rfl) ?_;simp only[↓go1,go2,go3,simprocAttr,h6,hw];exact ih (j+1) _ _ _ _ (by omega) (by omega) hkeep he h0 h1 h5 rfl
   |false=>
    rw[if_neg (by rw[hp];simp)]at he;simp only[↓go1,gB2,go4,simprocAttr,h0,h1,h6,hlt,hj0,Qe,hat,Av,Aa s111,h111,Ql,Qj,Qp,hp];refine Ao.intro (Aj rfl) ?_;simp only[↓go1,go2,go3,simprocAttr,h6,hw];exact ih (j+1) _ _ _ _ (by omega) (by omega) hkeep he h0 h1 h5 rfl
open Classical in
def F220:List D->Option D
 |[.slice _ _ xs,.str s]=>if xs=An (A9 xs)∧xs.length<=1000000∧By (A9 xs)∧s.length<=1000000 then some (.int .u8 (BA (A9 xs) s))else none
 |_=>none
open Classical in
def F220_eq{nl:Bool}{t:Id}{l:List Rl}{s:Bs}(hl:l.length<=1000000)(hp:By l)(hs:s.length<=1000000):F220 [.slice nl t (An l),.str s]=some (.int .u8 (BA l s)):=by
 have h:An l=An (A9 (An l))∧(An l).length<=1000000∧By (A9 (An l))∧s.length<=1000000:=by rw[AN,Av];exact⟨rfl,hl,hp,hs⟩
 show(if _ then _ else _)=_;rw[if_pos h,AN]
open Classical in
def F220_inv{ds:List D}{r:D}(h:F220 ds=some r):∃nl t l s,ds=[.slice nl t (An l),.str s]∧l.length<=1000000∧By l∧s.length<=1000000∧r= .int .u8 (BA l s):=by
 unfold F220 at h;split at h
 ·rename_i nl t xs s;split at h
  ·rename_i hc;obtain⟨h1,h2,h3⟩:=hc;simp only[Qa]at h;subst h;refine⟨nl,t,A9 xs,s,by rw[←h1],?_,h3.1,h3.2,rfl⟩;rw[h1,Av]at h2;exact h2
  ·cases h
 ·cases h
def ok220:(Ac F220).ok Qb 220:=by
 obtain⟨S,hS,hl⟩:=A7 (Ab ok111 Ad);have s111:=hl 111 _ rfl;clear hl;refine Ay (S:=S) hS fn220 (λds r h=>?_) (λds r h=>?_)
 ·obtain⟨nl,t,l,s,rfl,_⟩:=F220_inv h;simp
 ·obtain⟨nl,t,l,s,rfl,hl,hp,hs,rfl⟩:=F220_inv h;unfold dc220 BA;have hlt:=longE_lt s (l.map (·.1));rw[Qu]at hlt;simp only[↓go1,go2,Qh];refine loop220 (s:=s) (l:=l) (nl:=nl) (t:=t) (e:=ED s (l.map (·.1))) s111 hl hp hs (λst h0 h1=>?_) l.length 0 (-1) (-1) _ _ (by omega) (by omega) (.inl ⟨by omega,rfl⟩) (by rw[ED,Qu]) rfl rfl rfl rfl;generalize ED s (l.map (·.1))=i at h1 hlt;by_cases hi:i<0
  ·simp only[↓go1,gB3,simprocAttr,h1,hi]
  ·obtain⟨j,rfl⟩:=QH (show 0<=i by omega);have hj:j<l.length:=by omega
   have hj0:=nJ (j:=j);have hat:(An l)[j]?=some (.agg [.str (Bl l j).1,.int .u8 (Bl l j).2]):=Dm hj;simp only[↓go1,gB2,go4,simprocAttr,h0,h1,hi,hj0,Qe,hat,and_self,Qj,Qv,Qp]
def allowsP(l:List Rl)(s:Bs)(want:Int):Bool:=FI (BA l s).toNat want.toNat
def DM(l:List Rl):Prop:=∀r∈l,0<=r.2∧r.2<256
open Classical in
def F215:List D->Option D
 |[.slice _ _ xs,.str s,.int .u8 k]=>if xs=An (A9 xs)∧xs.length<=1000000∧DM (A9 xs)∧By (A9 xs)∧s.length<=1000000∧0<=k∧k<256 then some (.bool (allowsP (A9 xs) s k))else none
 |_=>none
open Classical in
def F215_eq{nl:Bool}{t:Id}{l:List Rl}{s:Bs}{k:Int}(hl:l.length<=1000000)(hc:DM l)(hp:By l)(hs:s.length<=1000000)(h0:0<=k)(h1:k<256):F215 [.slice nl t (An l),.str s,.int .u8 k]=some (.bool (allowsP l s k)):=by
 have h:An l=An (A9 (An l))∧(An l).length<=1000000∧DM (A9 (An l))∧By (A9 (An l))∧s.length<=1000000∧0<=k∧k<256:=by rw[AN,Av];exact⟨rfl,hl,hc,hp,hs,h0,h1⟩
 show(if _ then _ else _)=_;rw[if_pos h,AN]
open Classical in
def F215_inv{ds:List D}{r:D}(h:F215 ds=some r):∃nl t l s k,ds=[.slice nl t (An l),.str s,.int .u8 k]∧l.length<=1000000∧DM l∧By l∧s.length<=1000000∧0<=k∧k<256∧r= .bool (allowsP l s k):=by
 unfold F215 at h;split at h
 ·rename_i nl t xs s k;split at h
  ·rename_i hc;obtain⟨h1,h2,h3,hp,hs,h4,h5⟩:=hc;simp only[Qa]at h;subst h;refine⟨nl,t,A9 xs,s,k,by rw[←h1],?_,h3,hp,hs,h4,h5,rfl⟩;rw[h1,Av]at h2;exact h2
  ·cases h
 ·cases h
def capsP_b{l:List Rl}{s:Bs}(hc:DM l):0<=BA l s∧BA l s<256:=by
 unfold BA;have hlt:=longE_lt s (l.map (·.1));rw[Qu]at hlt;split
 ·omega
 ·rename_i h;have hj:(ED s (l.map (·.1))).toNat<l.length:=by omega
  have:Bl l (ED s (l.map (·.1))).toNat=l[(ED s (l.map (·.1))).toNat]:=by simp[Bl,Qd hj]
  rw[this];exact hc _ (List.getElem_mem hj)
def F219_eq{a c:Int}(h1:0<=a)(h2:a<256)(h3:0<=c)(h4:c<256):F219 [.int .u8 a,.int .u8 c]=some (.bool (FI a.toNat c.toNat)):=if_pos ⟨h1,h2,h3,h4⟩
def ok215:(Ac F215).ok Qb 215:=by
 obtain⟨S,hS,hl⟩:=A7 (Ab ok95 Ad);have s95:=hl 95 _ rfl;clear hl;refine Ay (S:=S) hS fn215 (λds r h=>?_) (λds r h=>?_)
 ·obtain⟨nl,t,l,s,k,rfl,_⟩:=F215_inv h;simp
 ·obtain⟨nl,t,l,s,k,rfl,hl,hc,hp,hs,h0,h1,rfl⟩:=F215_inv h;have e1:=F95_eq (nl:=nl) (t:=[]) (s:=s) hl;have hb:=capsP_b (s:=s) hc;have hall:(An l).all D.calm=true:=by rw[Qw];intro x hx;obtain⟨y,_,rfl⟩:=QF.1 hx;rfl
  have hun:(An l).map D.un=An l:=by rw[An,QQ];exact QG λ_ _=>rfl
  unfold dc215 allowsP;generalize BA l s=a at e1 hb;obtain⟨a,rfl⟩:=QH hb.1;obtain⟨k,rfl⟩:=QH h0;have hbit:=andNot_nat (a:=a) (c:=k) (by omega) (by omega);have hz:decide (((Nat.land k (255-a):Nat):Int)=0)=FI a k:=by
   unfold FI;generalize Nat.land k (255-a)=x;cases x with
   |zero=>rfl
   |succ x=>simp[Nat.beq];omega
  simp only[↓go1,gB3,simprocAttr,Aa s95,e1,v_andNot,hbit,hz,Qe]
def F9{m:Mem}{e:Nat}{nl:Bool}{t:Id}{xs:List D}:Grow m e (.slice nl t xs)=(nl=true∨(m t 0=some (.tok (e+1))∧t≠[])):=rfl
def E5{e:Nat}{fr t:Id}{xs:List D}:Bg e fr (.slice false t xs)=[(t,0,[.tok 0]),(fr,0,[.tok (e+1)])]:=rfl
def rlsD_append(a b:List Rl):An a++An b=An (a++b):=(Zq ..).symm
def C0(l:List Rl):(An l).all D.calm=true:=by rw[Qw];intro x hx;obtain⟨y,_,rfl⟩:=QF.1 hx;rfl
def EX(l:List Rl):(An l).map D.un=An l:=by rw[An,QQ];exact QG λ_ _=>rfl
def oneC(a b:List Rl)(r:Rl):Bool:=FI (BA b r.1).toNat (BA a r.1).toNat
def Du(a b l:List Rl):Nat->Nat->Bool
 |0,_=>true
 |f+1,j=>if oneC a b (Bl l j)=true then Du a b l f (j+1)else false
def Fa(a b l:List Rl):∀(f j:Nat),l.length=j+f->Du a b l f j=(l.drop j).all (oneC a b)
 |0,j,h=>by rw[Q6 (by omega)];rfl
 |f+1,j,h=>by
  have hj:j<l.length:=by omega
  have e:Bl l j=l[j]:=by simp[Bl,Qd hj]
  unfold Du;rw[Fa a b l f (j+1) (by omega),Zl hj,Zn,e];cases oneC a b l[j]<;>simp
def Dv(a b:List Rl):Bool:=decide (Cr a=0)&&decide (Cr b=0)&&(a++b).all (oneC a b)
def loop118{S:Summs}{ns:Id}{a b l:List Rl}{nl na nb:Bool}{t ta tb:Id}{Q:Ex->St->Prop}{e:Bool}(s220:S 220=some (Ac F220))(s219:S 219=some (Ac F219))
  (la:a.length<=1000000) (lb:b.length<=1000000) (pa:By a) (pb:By b) (ca:DM a) (cb:DM b) (hb:l.length<=1000000) (hpl:By l)
  (hret:∀st,e=false->st.s 4= .bool false->Q .ret st) (hexit:∀st,e=true->Q (.exit 0) st):
  ∀(f j:Nat) st g,l.length=j+f->Du a b l f j=e->st.s 0= .slice na ta (An a)->st.s 1= .slice nb tb (An b)->st.s 5= .slice nl t (An l)->st.s 6= .int .i64 (j:Int)->A8 S ns dc118l0 Q st g:=by
 intro f;induction f with
 |zero=>
  intro j st g hf he h0 h1 h5 h6;refine Ae dc118l0.eq_1 ?_;have:¬((j:Int)<l.length):=by omega
  simp only[↓go1,go2,go4,simprocAttr,h5,h6,this,Av];exact hexit _ he.symm
 |succ f ih=>
  intro j st g hf he h0 h1 h5 h6;refine Ae dc118l0.eq_1 ?_;unfold Du at he;have hj:j<l.length:=by omega
  have hlt:((j:Int)<l.length):=by omega
  have hj0:=nJ (j:=j);have hw:=wJ (j:=j) (by omega);have hat:(An l)[j]?=some (.agg [.str (Bl l j).1,.int .u8 (Bl l j).2]):=Dm hj;have hq:=prefB_at hpl hj;unfold oneC at he;generalize (Bl l j).1=q at hat hq he;have ea:=F220_eq (nl:=na) (t:=[]) (s:=q) la pa hq;have eb:=F220_eq (nl:=nb) (t:=[]) (s:=q) lb pb hq;have ba:=capsP_b (s:=q) ca;have bb:=capsP_b (s:=q) cb;have e219:=F219_eq bb.1 bb.2 ba.1 ba.2;have halla:=C0 a;have hallb:=C0 b;have huna:=EX a;have hunb:=EX b;generalize FI (BA b q).toNat (BA a q).toNat=hh at he e219;obtain⟨st_s,st_m,st_c⟩:=st;simp only at h0 h1 h5 h6;cases hh with
  |true=>
   rw[if_pos rfl]at he;simp only[↓go1,gB2,go4,simprocAttr,h0,h1,h5,h6,hlt,hj0,hw,Qe,hat,Av,Aa s220,ea,eb,Aa s219,e219,Ql,Qj,Qp];exact ih (j+1) _ _ (by omega) he h0 h1 h5 rfl
  |false=>
   rw[if_neg (by simp)]at he;simp only[↓go1,gB2,go4,simprocAttr,h0,h1,h5,h6,hlt,hj0,Qe,hat,Av,Aa s220,ea,eb,Aa s219,e219,Ql,Qj,Qp];exact hret _ he.symm rfl
open Classical in
def F118:List D->Option D
 |[.slice _ _ xs,.slice _ _ ys]=>if(xs=An (A9 xs)∧xs.length<=1000000∧By (A9 xs)∧DM (A9 xs))∧ys=An (A9 ys)∧ys.length<=1000000∧By (A9 ys)∧DM (A9 ys)then some (.bool (Dv (A9 xs) (A9 ys)))else none
 |_=>none
open Classical in
def F118_eq{na nb:Bool}{ta tb:Id}{a b:List Rl}(la:a.length<=1000000)(lb:b.length<=1000000)(pa:By a)(pb:By b)(ca:DM a)(cb:DM b):F118 [.slice na ta (An a),.slice nb tb (An b)]=some (.bool (Dv a b)):=by
 have h:(An a=An (A9 (An a))∧(An a).length<=1000000∧By (A9 (An a))∧DM (A9 (An a)))∧An b=An (A9 (An b))∧(An b).length<=1000000∧By (A9 (An b))∧DM (A9 (An b)):=by
  rw[AN,AN,Av,Av];exact⟨⟨rfl,la,pa,ca⟩,rfl,lb,pb,cb⟩
 show(if _ then _ else _)=_;rw[if_pos h,AN,AN]
open Classical in
def F118_inv{ds:List D}{r:D}(h:F118 ds=some r):∃na ta a nb tb b,ds=[.slice na ta (An a),.slice nb tb (An b)]∧a.length<=1000000∧b.length<=1000000∧By a∧By b∧DM a∧DM b∧r= .bool (Dv a b):=by
 unfold F118 at h;split at h
 ·rename_i na ta xs nb tb ys;split at h
  ·rename_i hc;obtain⟨⟨h1,h2,h3,h4⟩,h5,h6,h7,h8⟩:=hc;simp only[Qa]at h;subst h;refine⟨na,ta,A9 xs,nb,tb,A9 ys,by rw[←h1,←h5],?_,?_,h3,h7,h4,h8,rfl⟩
   ·rw[h1,Av]at h2;exact h2
   ·rw[h5,Av]at h6;exact h6
  ·cases h
 ·cases h
def ok118:(Ac F118).ok Qb 118:=by
 obtain⟨S,hS,hl⟩:=A7 (Ab ok218 (Ab ok220 (Ab ok219 Ad)));have s218:=hl 218 _ rfl;have s220:=hl 220 _ rfl;have s219:=hl 219 _ rfl;clear hl;refine Ay (S:=S) hS fn118 (λds r h=>?_) (λds r h=>?_)
 ·obtain⟨na,ta,a,nb,tb,b,rfl,_⟩:=F118_inv h;simp
 ·obtain⟨na,ta,a,nb,tb,b,rfl,la,lb,pa,pb,ca,cb,rfl⟩:=F118_inv h;have ea:=Fpol_eq (nl:=na) (t:=[]) la pa;have eb:=Fpol_eq (nl:=nb) (t:=[]) lb pb;have halla:=C0 a;have hallb:=C0 b;have huna:=EX a;have hunb:=EX b;have h4a:Cr a=0->a.length<=4:=by unfold Cr;split<;>omega
  have h4b:Cr b=0->b.length<=4:=by unfold Cr;split<;>omega
  unfold dc118 Dv;generalize Cr a=xa at *;generalize Cr b=xb at *;by_cases hxa:xa=0
  ·by_cases hxb:xb=0
   ·have l4a:=h4a hxa;have l4b:=h4b hxb;subst hxa hxb;have n1:(An a).length*25<=140737488355328:=by rw[Av];omega
    have n2:((An a).length+(An b).length)*25<=140737488355328:=by rw[Av,Av];omega
    simp only[↓go1,gB2,go4,simprocAttr,Aa s218,ea,eb,F9,E5,n1,n2,rlsD_head,false_or,false_and,QK,ne_eq,QR,QS,rlsD_append,if_false,Af,Ql,Qq,Qg,and_self];refine loop118 (a:=a) (b:=b) (l:=a++b) (e:=(a++b).all (oneC a b)) s220 s219 la lb pa pb ca cb (by simp;omega) ?_ (λst h1 h2=>?_) (λst h1=>?_) (a++b).length 0 _ _ (by omega) ?_ rfl rfl rfl rfl
    ·intro r hr;rcases List.mem_append.1 hr with h|h
     ·exact pa r h
     ·exact pb r h
    ·simp only[↓go1,gB3,h1,h2]
    ·simp only[↓go1,gB3,reduceIte,Qh,h1]
    ·rw[Fa _ _ _ _ _ (by omega)];rfl
   ·simp only[↓go1,gB3,simprocAttr,Aa s218,ea,eb,hxb,hxa];simp
  ·simp only[↓go1,gB3,simprocAttr,Aa s218,ea,hxa];simp
end Go.Vd
namespace Go.Vd
open Go.Proofs
def dc246:DC:=(sr [cb 6 false] (sr [mm 7 0,mm 8 1,bt 9 .geq 7 8,mm 10 9,gm 11 0 3 true,gm 12 2 3 true,gt 13 .leq 11 12 3 true,pa 14 10 13,mm 6 14] .ret))
def fn246:Fn Qb 246 15 dc246 [.t 6]:=Am func246
def dc294:DC:=(sr [ob 2 0,ob 3 1,ci 4 0] (.seq (sr [ff 5 0 2,ll 6 5,bi 7 .eql 6 0] (cd 7 (sr [ff 8 0 3,ll 9 8,mm 4 9] .ret) .skip)) (sr [ff 10 0 2,ll 11 10,mm 4 11] .ret)))
def fn294:Fn Qb 294 12 dc294 [.t 4]:=Am func294
def dc295l0:DC:=(sr [bt 11 .lss 10 9] (.seq (cd 11 .skip (.exit 0)) (.seq (.block 1 (sr [ii 12 3 8 10,lk 13 3 12,al 7 [zi,zb,zb],st 3 7 13] (.seq (sr [mm 14 1,lk 15 3 7,oo 16 (.call (.t 14) [(.t 15)]),mm 17 5,bt 18 .leq 16 17] (cd 18 (sr [cb 4 false] .ret) .skip)) (.row [mm 19 1,lk 20 3 7,oo 21 (.call (.t 19) [(.t 20)]),mm 5 21])))) (.row [bi 22 .add 10 1,mm 10 22]))))
def dc295:DC:=(sr [cb 4 false] (sr [ci 5 0] (.seq (sr [mm 8 0,nn 9 false 8,ci 10 0] (.block 0 (.loop dc295l0))) (sr [cb 4 true] .ret))))
def fn295:Fn Qb 295 23 dc295 [.t 4]:=Am func295
def dc191:DC:=(sr [ob 2 0,ob 3 1,ci 4 0] (.seq (sr [ff 7 0 3,ll 8 7,cc 9 246 [(.t 8),(.c (.int .i64 1)),(.c (.int .i64 6))],nt 10 9,mm 11 10,gf 12 0 2 4 false,gl 13 12 4 false,gc 14 246 [(.t 13),(.c (.int .i64 0)),(.c (.int .i64 6))] 4 false,og 15 (.un .not (.t 14)) 4 false,po 16 11 15,mm 17 16,gf 18 2 2 10 false,gl 19 18 10 false,gc 20 246 [(.t 19),(.c (.int .i64 0)),(.c (.int .i64 30))] 10 false,og 21 (.un .not (.t 20)) 10 false,po 22 17 21] (cd 22 (sr [ci 4 2] .ret) .skip)) (.seq (.seq (.drawn [ff 23 3 2,ll 24 23,nn 25 false 24,lk 26 4 2,lk 27 2 3,c2 28 294 26 27,bt 29 .gtr 25 28,mm 30 29,gf 31 3 2 7 false,gl 32 31 7 false,gc 33 295 [(.t 32),(.c (.fn 296 []))] 7 false,og 34 (.un .not (.t 33)) 7 false,po 35 30 34] [(5,1)]) (cd 35 (sr [ci 4 2] .ret) .skip)) (sr [ci 5 0] (.seq (sr [ff 36 3 2,ll 37 36,nn 38 false 37,mm 6 38] (sr [mm 39 6,bi 40 .gtr 39 0] (cd 40 (.row [ff 41 3 2,ll 42 41,mm 43 6,bi 44 .sub 43 1,ii 45 3 42 44,ff 46 0 45,ll 47 46,mm 5 47]) .skip))) (.seq (sr [mm 48 5,ff 49 2 2,ll 50 49,bt 51 .neq 48 50] (cd 51 (sr [ci 4 2] .ret) .skip)) (sr [ci 4 0] .ret)))))))
def fn191:Fn Qb 191 52 dc191 [.t 4]:=Am func191
def dc102:DC:=(sr [ob 1 0,ci 2 0] (.seq (sr [ff 4 0 1,ll 5 4,c1 6 201 5,mm 3 6] (sr [mm 7 3,bi 8 .neq 7 0] (cd 8 (sr [mm 9 3,mm 2 9] .ret) .skip))) (sr [oo 10 (.build [zi,zb,zi,zn] []),ff 11 1 1,lk 12 2 11,c2 13 191 10 12,mm 2 13] .ret)))
def fn102:Fn Qb 102 14 dc102 [.t 2]:=Am func102
def dc105l0:DC:=(sr [bt 14 .lss 13 12] (.seq (cd 14 .skip (.exit 0)) (.seq (.block 1 (sr [mm 15 13,ii 16 3 11 13,lk 17 3 16,al 5 [zs,zi,zb],mm 4 15,st 3 5 17] (.row [mm 18 3,mm 19 4,ff 20 0 5,ll 21 20,ii 22 1 18 19,st 1 22 21]))) (.row [bi 23 .add 13 1,mm 13 23]))))
def dc105:DC:=(sr [ob 1 0,oo 2 (.mv (.c (.slice true [] [])))] (sr [ff 6 0 1,ll 7 6,nn 8 false 7,oo 9 (.mksl 9 1 16 (.str []) (.t 8) (.t 8)),mm 3 9] (.seq (sr [ff 10 0 1,ll 11 10,nn 12 false 11,ci 13 0] (.block 0 (.loop dc105l0))) (sr [mm 24 3,mm 2 24] .ret))))
def fn105:Fn Qb 105 25 dc105 [.t 2]:=Am func105
end Go.Vd
namespace Go.Vd
open Go.Proofs Go.RowKit
def F246:List D->Option D
 |[.int .i64 n,.int .i64 lo,.int .i64 hi]=>some (.bool (decide (lo<=n∧n<=hi)))
 |_=>none
def ok246:(Ac F246).ok Qb 246:=by
 refine Ay (S:=λ_=>none) AL fn246 (λds r h=>?_) (λds r h=>?_)
 ·unfold F246 at h;split at h
  ·simp
  ·cases h
 ·unfold F246 at h;split at h
  ·rename_i n lo hi;simp only[Qa]at h;subst h;unfold dc246;simp only[↓go1,go2,simprocAttr]
   repeat' (first|(refine ifQ.intro (λh=>?_) (λh=>?_)<;>try (exfalso;omega))|(simp only[↓go1,gB3,simprocAttr,h,and_self,false_and]))
   all_goals (simp_all<;>omega)
  ·cases h
def F294:List D->Option D
 |[.agg [.int .i64 a,.bool b,.int .i64 c,.slice nl t xs],.agg [.int .i64 q,.bool b2]]=>some (.int .i64 (if a=0 then q else a))
 |_=>none
def ok294:(Ac F294).ok Qb 294:=by
 refine Ay (S:=λ_=>none) AL fn294 (λds r h=>?_) (λds r h=>?_)
 ·unfold F294 at h;split at h
  ·simp
  ·cases h
 ·unfold F294 at h;split at h
  ·rename_i a b c nl t xs q b2;simp only[Qa]at h;subst h;unfold dc294;simp only[↓go1,gB2,go4,simprocAttr,Af,Ql,Qq,Qg,and_self,Qi,Qm]
   repeat' (first|(refine ifQ.intro (λh=>?_) (λh=>?_)<;>try (exfalso;omega))|(simp only[↓go1,gB2,go4,simprocAttr,h,Af,Ql,Qq,Qg,and_self,Qi,Qm,QP]))
   all_goals simp_all
  ·cases h
def F295:List D->Option D
 |[.slice nl t [],.fn g caps]=>some (.bool true)
 |_=>none
def ok295:(Ac F295).ok Qb 295:=by
 refine Ay (S:=λ_=>none) AL fn295 (λds r h=>?_) (λds r h=>?_)
 ·unfold F295 at h;split at h
  ·simp
  ·cases h
 ·unfold F295 at h;split at h
  ·rename_i nl t g caps;simp only[Qa]at h;subst h;unfold dc295;simp only[↓go1,go2,simprocAttr,QL];refine Ae dc295l0.eq_1 ?_;simp only[↓go1,gB3,simprocAttr,and_self,Zo,Zj]
  ·cases h
def F191:List D->Option D
 |[.agg [.int .i64 0,.bool b,.int .i64 0,.slice nl t []],.agg [.int .i64 q,.bool b2]]=>some (.int .i64 (if 1<=q∧q<=6 then 0 else 2))
 |_=>none
def ok191:(Ac F191).ok Qb 191:=by
 obtain⟨S,hS,hl⟩:=A7 (Ab ok246 (Ab ok294 (Ab ok295 Ad)));have s246:=hl 246 _ rfl;have s294:=hl 294 _ rfl;have s295:=hl 295 _ rfl;clear hl;refine Ay (S:=S) hS fn191 (λds r h=>?_) (λds r h=>?_)
 ·unfold F191 at h;split at h
  ·simp
  ·cases h
 ·unfold F191 at h;split at h
  ·rename_i b nl t q b2;simp only[Qa]at h;subst h;unfold dc191;have h246:∀n lo hi,F246 [.int .i64 n,.int .i64 lo,.int .i64 hi]=some (.bool (decide (lo<=n∧n<=hi))):=λ_ _ _=>rfl
   have h294:F294 [.agg [.int .i64 0,.bool b,.int .i64 0,.slice nl [] []],.agg [.int .i64 q,.bool b2]]=some (.int .i64 q):=rfl;have h295:∀nl t g caps,F295 [.slice nl t [],.fn g caps]=some (.bool true):=λ_ _ _ _=>rfl
   by_cases hq:1<=q∧q<=6
   ·have hq0:¬(q<0):=by omega
    simp only[↓go1,gB0,simprocAttr,Af,Ap,Aq,Qc,Qi,Qm,QP,and_false,Aa s246,h246,Aa s294,h294,Aa s295,h295,hq,hq0,Zj];refine Ao.intro (Aj rfl) ?_;simp only[↓go1,gB0,simprocAttr,Af,Qi,Qm,and_false,hq,Zo,Zj]
   ·simp only[↓go1,gB2,go4,simprocAttr,Af,Ql,Qq,Qg,and_self,Qi,QP,Aa s246,h246,hq]
  ·cases h
end Go.Vd
namespace Go.Vd
open Go.Proofs
def dc210:DC:=(sr [cb 2 false] (sr [mm 3 0,mm 4 0,bt 5 .neq 3 4,mm 2 5] .ret))
def fn210:Fn Qb 210 6 dc210 [.t 2]:=Am func210
def dc109:DC:=(sr [ci 4 0] (sr [mm 7 0,c1 8 210 7,mm 5 8] (sr [mm 9 1,c1 10 210 9,mm 6 10] (.seq (sr [mm 11 5] (cd 11 (.seq (sr [mm 12 6] (cd 12 (sr [ci 4 0] .ret) .skip)) (sr [oo 4 (.mv (.c (.int .i64 (-1))))] .ret)) .skip)) (.seq (sr [mm 13 6] (cd 13 (sr [ci 4 1] .ret) .skip)) (.seq (sr [mm 14 0,mm 15 1,bt 16 .lss 14 15] (cd 16 (sr [oo 4 (.mv (.c (.int .i64 (-1))))] .ret) .skip)) (.seq (sr [mm 17 0,mm 18 1,bt 19 .gtr 17 18] (cd 19 (sr [ci 4 1] .ret) .skip)) (sr [ci 4 0] .ret))))))))
def fn109:Fn Qb 109 20 dc109 [.t 4]:=Am func109
def dc108:DC:=(sr [ob 2 0,ob 3 1,ci 4 0] (sr [ff 5 0 2,ll 6 5,ff 7 0 3,ll 8 7,c2 9 109 6 8,mm 4 9] .ret))
def fn108:Fn Qb 108 10 dc108 [.t 4]:=Am func108
end Go.Vd
namespace Go.Vd
open Go.Proofs Go.RowKit
abbrev Mt:=Bs×Int×Bool
def mtD(m:Mt):D:= .agg [.str m.1,.int .i64 m.2.1,.bool m.2.2]
def Ar(l:List Mt):List D:=l.map mtD
def mtT:D->Mt
 | .agg [.str p,.int .i64 q,.bool b]=>(p,q,b)
 |_=>([],0,false)
def Ca(xs:List D):List Mt:=xs.map mtT
def Bh(l:List Mt):Ca (Ar l)=l:=by
 simp only[Ca,Ar,QQ]
 conv=>rhs;rw[←List.map_id l]
 exact QG λr _=>rfl
def Ax(l:List Mt):(Ar l).length=l.length:=Qu ..
def mtsD_elB(l:List Mt):(Ar l).all (elB (some 3))=true:=by
 rw[Qw];intro x hx;obtain⟨r,_,rfl⟩:=QF.1 hx;rfl
def Bj(l:List Mt)(j:Nat):Mt:=l.getD j ([],0,false)
def mtsD_at{l:List Mt}{j:Nat}(h:j<l.length):(Ar l)[j]?=some (mtD (Bj l j)):=by
 simp[Ar,Bj,Qd h]
def CW(p:Bs)(q:Int):Int:=if AW p≠0 then AW p else if 1<=q∧q<=6 then 0 else 2
def BW(l:List Mt)(p:Bs):Int:=Bb (l.map λm=>decide (m.1=p))
def idx203_ex{l:List Mt}{nl:Bool}{t:Id}(hl:l.length<=1000000){q:Bs}(m:Mem)(fr i:Id)(hm:m i 0=some (.str q)):
  (EO 204 (some 3) K204).ex [.slice nl t (Ar l),.fn 204 [.ptr i 0]] m fr=some (.int .i64 (BW l q),[]):=by
 have e:(Ar l).map (K204 (.str q))=(l.map λr=>decide (r.1=q)).map λb=>some (.bool b):=by
  simp only[Ar,QQ];exact QG λr _=>rfl
 simp only[EO,Ax,hl,mtsD_elB,and_self,if_true,Fl,hm,Qc,e,Dc,QO];rfl
def Ez(s:Bs)(l:List Bs):Bool:=l.any λq=>A4 s q||A4 q s
def cn192_ex{l:List Bs}{nl:Bool}{t:Id}(hl:l.length<=1000000){s:Bs}(m:Mem)(fr i:Id)(hm:m i 0=some (.str s)):
  (cnS 205 none K205).ex [.slice nl t (l.map .str),.fn 205 [.ptr i 0]] m fr=some (.bool (Ez s l),[]):=by
 have e:(l.map D.str).map (K205 (.str s))=(l.map λq=>A4 s q||A4 q s).map λb=>some (.bool b):=by
  simp only[QQ];exact QG λr _=>rfl
 have hel:(l.map D.str).all (elB none)=true:=by
  rw[Qw];intro x hx;obtain⟨r,_,rfl⟩:=QF.1 hx;rfl
 simp only[cnS,Qu,hl,hel,and_self,if_true,Fl,hm,Qc,e,Dc,QO];simp only[Ez,List.any_map];rfl
def F102:List D->Option D
 |[.agg [.str p,.int .i64 q,.bool b]]=>if p.length<=1000000 then some (.int .i64 (CW p q))else none
 |_=>none
def ok102:(Ac F102).ok Qb 102:=by
 obtain⟨S,hS,hl⟩:=A7 (Ab ok201 (Ab ok191 Ad));have s201:=hl 201 _ rfl;have s191:=hl 191 _ rfl;clear hl;refine Ay (S:=S) hS fn102 (λds r h=>?_) (λds r h=>?_)
 ·unfold F102 at h;split at h
  ·simp
  ·cases h
 ·unfold F102 at h;split at h
  ·rename_i p q b;split at h
   ·rename_i hc;simp only[Qa]at h;subst h;unfold dc102;have h201:F201 [.str p]=some (.int .i64 (AW p)):=if_pos hc;have h191:F191 [.agg [.int .i64 0,.bool false,.int .i64 0,.slice true [] []],.agg [.int .i64 q,.bool b]]=some (.int .i64 (if 1<=q∧q<=6 then 0 else 2)):=rfl;unfold CW;generalize AW p=e at *;generalize (if 1<=q∧q<=6 then(0:Int)else 2)=e2 at *;by_cases he:e=0
    ·subst he;simp only[↓go1,gB0,reduceIte,Qf,Qh,Af,Ap,Aq,QT,Qc,BK,Aa s201,h201,Aa s191,h191,ne_eq]
    ·simp only[↓go1,gB2,go4,reduceIte,Qf,Qh,Af,Ql,QT,Qq,Qg,and_self,Aa s201,h201,he,ne_eq]
   ·cases h
  ·cases h
open Classical in
def F103:List D->Option D
 |[.agg [.slice _ _ xs],.str p]=>if xs=Ar (Ca xs)∧xs.length<=1000000 then some (.int .i64 (BW (Ca xs) p))else none
 |_=>none
open Classical in
def F103_eq{nl:Bool}{t:Id}{l:List Mt}{p:Bs}(hl:l.length<=1000000):F103 [.agg [.slice nl t (Ar l)],.str p]=some (.int .i64 (BW l p)):=by
 have h:Ar l=Ar (Ca (Ar l))∧(Ar l).length<=1000000:=by rw[Bh,Ax];exact⟨rfl,hl⟩
 show(if _ then _ else _)=_;rw[if_pos h,Bh]
def ok103:(Ac F103).ok Qb 103:=by
 obtain⟨S,hS,hl⟩:=A7 (Ab idx203 Ad);have s203:=hl 203 _ rfl;clear hl;refine Ay (S:=S) hS fn103 (λds r h=>?_) (λds r h=>?_)
 ·unfold F103 at h;split at h
  ·simp
  ·cases h
 ·unfold F103 at h;split at h
  ·rename_i nl t xs p;split at h
   ·rename_i hc;obtain⟨hx,hlen⟩:=hc;simp only[Qa]at h;subst h;generalize Ca xs=l at hx;subst hx;rw[Ax]at hlen;unfold dc103;simp only[↓go1,gB2,go4,reduceIte,Qf,Qh,Af,Ql,QT,Qq,Qg,and_self,Qi,Qm,QP,Ag s203,idx203_ex (q:=p) hlen]
   ·cases h
  ·cases h
def F104:List D->Option D
 |[.str s,.slice _ _ xs]=>(FU xs).bind λl=>if l.length<=1000000 then some (.bool (Ez s l))else none
 |_=>none
def F104_eq{s:Bs}{nl:Bool}{t:Id}{l:List Bs}(hl:l.length<=1000000):F104 [.str s,.slice nl t (l.map .str)]=some (.bool (Ez s l)):=by
 simp only[F104,FT,Qc];exact if_pos hl
def ok104:(Ac F104).ok Qb 104:=by
 obtain⟨S,hS,hl⟩:=A7 (Ab cn192 Ad);have s192:=hl 192 _ rfl;clear hl;refine Ay (S:=S) hS fn104 (λds r h=>?_) (λds r h=>?_)
 ·unfold F104 at h;split at h
  ·simp
  ·cases h
 ·unfold F104 at h;split at h
  ·rename_i s nl t xs;rw[QN]at h;obtain⟨l,hs,h⟩:=h;obtain rfl:=EV hs;split at h
   ·rename_i hl;simp only[Qa]at h;subst h;unfold dc104;simp only[↓go1,gB2,go4,reduceIte,Qf,Qh,Af,Ql,QT,Qq,Qg,and_self,Ag s192,cn192_ex (s:=s) hl]
   ·cases h
  ·cases h
def RI.base{fr r:Id}{m0 m0' m:Mem}{l:List Bs}{j:Nat}(h:RI fr r m0' m l j)(e:∀i o,¬fr<:+i->m0' i o=m0 i o):RI fr r m0 m l j:=
 ⟨h.row,λi o hn=>(h.out i o hn).trans (e i o hn)⟩
open Classical in
def F105:List D->Option (List Bs)
 |[.agg [.slice _ _ xs]]=>if xs=Ar (Ca xs)∧xs.length<=1000000 then some ((Ca xs).map (·.1))else none
 |_=>none
open Classical in
def F105_eq{nl:Bool}{t:Id}{l:List Mt}(hl:l.length<=1000000):F105 [.agg [.slice nl t (Ar l)]]=some (l.map (·.1)):=by
 have h:Ar l=Ar (Ca (Ar l))∧(Ar l).length<=1000000:=by rw[Bh,Ax];exact⟨rfl,hl⟩
 show(if _ then _ else _)=_;rw[if_pos h,Bh]
open Classical in
def F105_inv{ds:List D}{r:List Bs}(h:F105 ds=some r):∃nl t l,ds=[.agg [.slice nl t (Ar l)]]∧l.length<=1000000∧r=l.map (·.1):=by
 unfold F105 at h;split at h
 ·rename_i nl t xs;split at h
  ·rename_i hc;obtain⟨h1,h2⟩:=hc;simp only[Qa]at h;subst h;refine⟨nl,t,Ca xs,by rw[←h1],?_,rfl⟩;rw[h1,Ax]at h2;exact h2
  ·cases h
 ·cases h
def loop105{S:Summs}{fr:Id}{l:List Mt}{nl:Bool}{t:Id}{m0:Mem}{k:Nat}{Q:Ex->St->Prop}(hb:l.length<=1000000)
  (hexit:∀st,st.s 3= .row (k::fr) l.length->RI fr (k::fr) m0 st.m (l.map (·.1)) l.length->Q (.exit 0) st):
  ∀(f j:Nat) st g,l.length=j+f->k<st.c->st.s 3= .row (k::fr) l.length->st.s 11= .slice nl t (Ar l)->st.s 12= .int .i64 (l.length:Int)->st.s 13= .int .i64 (j:Int)->RI fr (k::fr) m0 st.m (l.map (·.1)) j->A8 S fr dc105l0 Q st g:=by
 intro f;induction f with
 |zero=>
  intro j st g hf hc h3 h11 h12 h13 I;refine Ae dc105l0.eq_1 ?_;have:¬((j:Int)<l.length):=by omega
  simp only[↓go1,go2,go4,reduceIte,Qh,h12,h13,this];exact hexit _ h3 (by rw[show l.length=j by omega];exact I)
 |succ f ih=>
  intro j st g hf hc h3 h11 h12 h13 I;refine Ae dc105l0.eq_1 ?_;have hj:j<l.length:=by omega
  have hlt:((j:Int)<l.length):=by omega
  have hj0:=nJ (j:=j);have hw:=wJ (j:=j) (by omega);have hat:(Ar l)[j]?=some (.agg [.str (Bj l j).1,.int .i64 (Bj l j).2.1,.bool (Bj l j).2.2]):=mtsD_at hj;have hg:(l.map (·.1)).getD j []=(Bj l j).1:=by simp[Bj,Qd hj]
  generalize Bj l j=r at hat hg;have hne1:((st.c+1+3)::fr=k::fr)=False:=eq_false (by simp;omega);have hne2:(k::fr=(st.c+1+3)::fr)=False:=eq_false (by simp;omega);have hrow:=I.row j (by simpa using hj);rw[if_neg (by omega)]at hrow;obtain⟨st_s,st_m,st_c⟩:=st;simp only at h3 h11 h12 h13 hc hne1 hne2 hrow I;simp only[↓go1,gB0,reduceIte,Qf,Qh,h3,h11,h12,h13,hlt,hj0,hw,Qe,hat,hne2,hrow,QA,false_and,Af,Ap,Aq,QT,Qc,Qt,Qy,Qk,false_and];refine ih (j+1) _ _ (by omega) (by simp only;omega) h3 h11 h12 rfl ?_;rw[←hg];exact((I.put (by simp;omega)).put (by simp;omega)).fill (Zc _ _)
def ok105:(rowS F105).ok Qb 105:=by
 refine rowS_ok (S:=λ_=>none) AL fn105 (λds r m fr h hfr=>?_);obtain⟨nl,t,l,rfl,hl,rfl⟩:=F105_inv h;refine⟨by simp,?_⟩;have hn0:((0:Int)<=(l.length:Int)):=by omega
 have hnb:((l.length:Int)*(((16:Nat):Int)+1)<=140737488355328)=True:=eq_true (by omega);unfold dc105;simp only[↓go1,gB2,go4,reduceIte,Qf,Qh,hn0,hnb,Ax,Qe,Int.le_refl,Af,Ql,QT,Qq,Qg,and_self,Qi,false_and];refine loop105 (l:=l) (nl:=nl) (t:=t) (m0:=m) (k:=5) hl (λst h1 h2=>?_) l.length 0 _ _ (by omega) (by simp only;omega) rfl rfl rfl rfl ?_
 ·simp only[↓go1,go2,reduceIte,Qf,Qh,h1,Qu];exact⟨_,rfl,Zc _ _,h2⟩
 ·exact RI.base (RI.start (by simp[])) (λi o hn=>Mem.put_other (λe=>hn (by rw[e];exact Zc _ _)))
end Go.Vd
namespace Go.Vd
open Go.Proofs
def dc296:DC:=(sr [ob 1 0,ci 2 0] (sr [ff 3 0 1,ll 4 3,mm 2 4] .ret))
def fn296:Fn Qb 296 5 dc296 [.t 2]:=Am func296
def dc335:DC:=(sr [al 0 [zi,zb]] (sr [oo 1 (.build [zi,zb] [(0,1,(.c (.int .i64 6)))]),st 2 0 1] .ret))
def fn335:Fn Qb 335 2 dc335 [.cell (some 2) 0]:=Am func335
def dc241:DC:=(sr [al 0 [zi,zb]] (sr [oo 1 (.build [zi,zb] [(0,1,(.c (.int .i64 6)))]),st 2 0 1] .ret))
def fn241:Fn Qb 241 2 dc241 [.cell (some 2) 0]:=Am func241
def dc136:DC:=(sr [ob 2 0,al 4 [zi,zb,zb],ci 5 0] (.seq (.seq (.drawn [lk 8 4 2,cc 9 241 [],c2 10 191 8 9,bi 11 .neq 10 0] [(1,0)]) (cd 11 (sr [oo 12 (.build [zi,zb,zb] []),st 3 4 12,ci 5 2] .ret) .skip)) (sr [lk 13 4 2,mm 14 1,c2 15 242 13 14,mm 6 15] (.seq (sr [mm 16 6,bi 17 .lss 16 0] (cd 17 (sr [oo 18 (.build [zi,zb,zb] []),st 3 4 18,ci 5 6] .ret) .skip)) (sr [ff 19 3 2,ll 20 19,mm 21 6,ii 22 3 20 21,lk 23 3 22,al 7 [zi,zb,zb],st 3 7 23] (.seq (sr [ff 24 1 7,ll 25 24,mm 26 25,gf 27 2 7 2 false,gl 28 27 2 false,po 29 26 28] (cd 29 (sr [lk 30 3 7,st 3 4 30,ci 5 21] .ret) .skip)) (sr [lk 31 3 7,st 3 4 31,ci 5 0] .ret)))))))
def fn136:Fn Qb 136 32 dc136 [.cell (some 3) 4,.t 5]:=Am func136
def dc242:DC:=(sr [ob 2 0,ob 3 1,ci 4 0] (.seq (sr [ll 5 3,bi 6 .eql 5 0] (cd 6 (sr [ff 7 3 2,ll 8 7,nn 9 false 8,bi 10 .sub 9 1,mm 4 10] .ret) .skip)) (sr [ff 11 3 2,ll 12 11,oo 13 (.mkfn 337 [(.t 3)]),c2 14 336 12 13,mm 4 14] .ret)))
def fn242:Fn Qb 242 15 dc242 [.t 4]:=Am func242
def dc337:DC:=(sr [ob 2 0,cb 3 false] (sr [ff 4 0 2,ll 5 4,ll 6 1,bt 7 .eql 5 6,mm 3 7] .ret))
def fn337:Fn Qb 337 8 dc337 [.t 3]:=Am func337
def dc243:DC:=(sr [ob 4 0,ob 5 1,al 8 [zi,zb,zi,zn],ci 9 0,oo 10 (.mv (.c (.slice true [] []))),ci 11 0] (.seq (sr [lk 15 4 4,lk 16 2 5,mm 17 2,mm 18 3,cc 19 338 [(.t 15),(.t 16),(.t 17),(.t 18)],mm 12 19] (sr [mm 20 12,bi 21 .neq 20 0] (cd 21 (sr [lk 22 4 4,mm 23 12,st 4 8 22,ci 9 0,oo 10 (.mv (.c (.slice true [] []))),mm 11 23] .ret) .skip))) (sr [ff 24 2 4,ll 25 24,bi 26 .add 25 1,ff 27 2 4,st 1 27 26] (.seq (.drawn [ff 28 3 4,ll 29 28,c1 30 339 29,ff 31 2 4,ll 32 31,oo 33 (.build [zi,zb,zb] [(0,1,(.t 32))]),bl 34 228 3 33,ap 35 228 3 16 30 34,ff 36 3 4,st 1 36 35] [(2,4),(2,6),(6,1),(6,2)]) (sr [lk 38 4 4,lk 39 2 5,c2 40 247 38 39,mm 37 40,xx 41 0 37,xx 42 1 37,al 13 [zi,zb,zi,zn],st 4 13 41,mm 14 42] (.seq (.drawn [lk 43 4 13,ff 44 2 13,ll 45 44,mm 46 14,st 4 8 43,mm 9 45,mm 10 46,ci 11 0] [(4,2)]) .ret))))))
def fn243:Fn Qb 243 47 dc243 [.cell (some 4) 8,.t 9,.t 10,.t 11]:=Am func243
def dc338:DC:=(sr [ob 4 0,ob 5 1,ci 8 0] (.seq (.block 0 (sr [lk 10 4 4,lk 11 2 5,c2 12 191 10 11,bi 13 .neq 12 0,mm 14 13,gm 15 2 4 false,og 16 (.bin .lss (.t 15) (.c (.int .i64 (-1)))) 4 false,po 17 14 16,mm 18 17,gm 19 3 8 false,gi 20 .lss 19 0 8 false,po 21 18 20,mm 9 21] (cd 9 (sr [ci 8 2] .ret) (sr [mm 23 3,bi 24 .gtr 23 96,mm 22 24] (cd 22 (sr [ci 8 18] .ret) (sr [mm 26 2,oo 27 (.bin .eql (.t 26) (.c (.int .i64 (-1)))),mm 28 27,gf 29 1 4 2 true,gl 30 29 2 true,gm 31 30 2 true,gf 32 1 5 5 false,gl 33 32 5 false,og 34 (.pick (.t 31) (.c (.bool true)) (.t 33)) 2 true,pa 35 28 34,mm 25 35] (cd 25 (sr [ci 8 17] .ret) (sr [mm 37 2,oo 38 (.bin .neq (.t 37) (.c (.int .i64 (-1)))),mm 39 38,gm 40 2 2 true,gf 41 2 4 2 true,gl 42 41 2 true,gt 43 .neq 40 42 2 true,pa 44 39 43,mm 36 44] (cd 36 (sr [ci 8 16] .ret) (sr [ff 46 2 4,ll 47 46,bi 48 .eql 47 30,mm 45 48] (cd 45 (sr [ci 8 19] .ret) .skip))))))))))) (sr [ci 8 0] .ret)))
def fn338:Fn Qb 338 49 dc338 [.t 8]:=Am func338
def dc247l0:DC:=(sr [bt 24 .lss 23 22] (.seq (cd 24 .skip (.exit 0)) (.seq (.block 1 (sr [ii 25 3 21 23,lk 26 3 25,al 9 [zi,zb,zb],st 3 9 26] (.row [mm 27 7,ff 28 0 9,ll 29 28,bl 30 3 1 29,ap 31 3 1 8 27 30,mm 7 31]))) (.row [bi 32 .add 23 1,mm 23 32]))))
def dc247:DC:=(sr [ob 2 0,ob 3 1,al 4 [zi,zb,zi,zn],oo 5 (.mv (.c (.slice true [] [])))] (.seq (.drawn [ff 10 3 2,ll 11 10,nn 12 false 11,lk 13 4 2,lk 14 2 3,c2 15 294 13 14,bt 16 .sub 12 15,oo 17 (.mxm true (.c (.int .i64 0)) (.t 16)),mm 6 17] [(5,1)]) (sr [oo 7 (.mv (.c (.slice true [] [])))] (.seq (sr [ff 18 3 2,ll 19 18,mm 20 6,oo 21 (.cutl 3 (.t 19) none (some (.t 20))),nn 22 false 21,ci 23 0] (.block 0 (.loop dc247l0))) (sr [ff 33 3 2,ll 34 33,mm 35 6,oo 36 (.cutl 3 (.t 34) (some (.t 35)) none),c1 37 339 36,ff 38 3 2,st 1 38 37] (sr [lk 39 4 2,mm 40 7,st 4 4 39,mm 5 40] .ret))))))
def fn247:Fn Qb 247 41 dc247 [.cell (some 4) 4,.t 5]:=Am func247
def dc339:DC:=(sr [oo 2 (.mv (.c (.slice true [] [])))] (.seq (sr [mm 3 0,oo 4 (.nileq false 0 (.t 3) (.c (.slice true [] [])))] (cd 4 (sr [oo 2 (.mv (.c (.slice true [] [])))] .ret) .skip)) (sr [oo 5 (.bslice 228 3 []),mm 6 0,ap 7 228 3 16 5 6,mm 2 7] .ret)))
def fn339:Fn Qb 339 8 dc339 [.t 2]:=Am func339
def dc139:DC:=(sr [ob 4 0,ob 5 1,al 8 [zi,zb,zi,zn],oo 9 (.mv (.c (.slice true [] []))),ci 10 0] (.seq (sr [lk 13 4 4,lk 14 2 5,c2 15 191 13 14,bi 16 .neq 15 0,mm 17 16,gm 18 2 4 false,gc 19 246 [(.t 18),(.c (.int .i64 0)),(.c (.int .i64 6))] 4 false,og 20 (.un .not (.t 19)) 4 false,po 21 17 20] (cd 21 (sr [lk 22 4 4,st 4 8 22,oo 9 (.mv (.c (.slice true [] []))),ci 10 2] .ret) .skip)) (sr [mm 23 2,mm 24 3,ff 25 0 4,st 1 25 23,ff 26 1 4,st 1 26 24] (sr [lk 28 4 4,lk 29 2 5,c2 30 247 28 29,mm 27 30,xx 31 0 27,xx 32 1 27,al 11 [zi,zb,zi,zn],st 4 11 31,mm 12 32] (sr [lk 33 4 11,mm 34 12,st 4 8 33,mm 9 34,ci 10 0] .ret)))))
def fn139:Fn Qb 139 35 dc139 [.cell (some 4) 8,.t 9,.t 10]:=Am func139
def dc249l0:DC:=(sr [bt 30 .lss 29 28] (.seq (cd 30 .skip (.exit 0)) (.seq (.block 1 (sr [mm 31 29,ii 32 3 27 29,lk 33 3 32,al 12 [zi,zb,zb],mm 11 31,st 3 12 33] (sr [mm 34 1,ff 35 0 12,ll 36 35,c2 37 341 34 36,mm 38 37,gm 39 1 4 false,gn 40 false 39 4 false,gi 41 .eql 40 0 4 false,gm 42 41 4 false,gm 43 11 8 true,gm 44 9 8 true,gn 45 false 44 8 true,gi 46 .sub 45 1 8 true,gt 47 .eql 43 46 8 true,og 48 (.pick (.t 42) (.t 47) (.c (.bool false))) 4 false,po 49 38 48,mm 13 49] (sr [mm 50 13,mm 51 50,gf 52 2 12 1 true,gl 53 52 1 true,og 54 (.un .not (.t 53)) 1 true,pa 55 51 54] (cd 55 (sr [mm 56 9,mm 57 11,mm 58 2,lk 59 3 12,oo 60 (.call (.t 58) [(.t 59)]),ii 61 3 56 57,st 3 61 60] (.row [mm 62 10,ff 63 0 12,ll 64 63,bl 65 3 1 64,ap 66 3 1 8 62 65,mm 10 66])) .skip))))) (.row [bi 67 .add 29 1,mm 29 67]))))
def dc249:DC:=(sr [ob 3 0,al 6 [zi,zb,zi,zn],oo 7 (.mv (.c (.slice true [] []))),ci 8 0] (.seq (.seq (.drawn [lk 14 4 3,cc 15 241 [],c2 16 191 14 15,bi 17 .neq 16 0] [(1,0)]) (cd 17 (sr [lk 18 4 3,st 4 6 18,oo 7 (.mv (.c (.slice true [] []))),ci 8 2] .ret) .skip)) (.seq (sr [ff 19 3 3,ll 20 19,nn 21 false 20,bi 22 .eql 21 0] (cd 22 (sr [lk 23 4 3,st 4 6 23,oo 7 (.mv (.c (.slice true [] []))),ci 8 6] .ret) .skip)) (sr [ff 24 3 3,ll 25 24,c1 26 339 25,mm 9 26] (sr [oo 10 (.mv (.c (.slice true [] [])))] (.seq (sr [mm 27 9,nn 28 false 27,ci 29 0] (.block 0 (.loop dc249l0))) (sr [mm 68 9,ff 69 3 3,st 1 69 68] (sr [lk 70 4 3,mm 71 10,st 4 6 70,mm 7 71,ci 8 0] .ret))))))))
def fn249:Fn Qb 249 72 dc249 [.cell (some 4) 6,.t 7,.t 8]:=Am func249
def dc250:DC:=(sr [ob 1 0,al 2 [zi,zb,zb]] (sr [ff 3 0 1,ll 4 3,oo 5 (.build [zi,zb,zb] [(0,1,(.t 4)),(1,1,(.c (.bool true)))]),st 3 2 5] .ret))
def fn250:Fn Qb 250 6 dc250 [.cell (some 3) 2]:=Am func250
def dc251:DC:=(sr [ob 1 0,al 2 [zi,zb,zb]] (sr [ff 3 0 1,ll 4 3,oo 5 (.build [zi,zb,zb] [(0,1,(.t 4))]),st 3 2 5] .ret))
def fn251:Fn Qb 251 6 dc251 [.cell (some 3) 2]:=Am func251
def dc252:DC:=(sr [ob 1 0,al 2 [zi,zb,zb]] (sr [ff 3 0 1,ll 4 3,oo 5 (.build [zi,zb,zb] [(0,1,(.t 4)),(2,1,(.c (.bool true)))]),st 3 2 5] .ret))
def fn252:Fn Qb 252 6 dc252 [.cell (some 3) 2]:=Am func252
def dc143:DC:=(sr [ob 2 0,al 4 [zi,zb,zi,zn],ci 5 0] (sr [lk 10 4 2,mm 11 1,cc 12 249 [(.t 10),(.t 11),(.c (.fn 250 []))],mm 9 12,xx 13 0 9,xx 14 1 9,xx 15 2 9,al 6 [zi,zb,zi,zn],st 4 6 13,mm 7 14,mm 8 15] (sr [lk 16 4 6,mm 17 8,st 4 4 16,mm 5 17] .ret)))
def fn143:Fn Qb 143 18 dc143 [.cell (some 4) 4,.t 5]:=Am func143
def dc144:DC:=(sr [ob 2 0,al 4 [zi,zb,zi,zn],ci 5 0] (sr [lk 10 4 2,mm 11 1,cc 12 249 [(.t 10),(.t 11),(.c (.fn 251 []))],mm 9 12,xx 13 0 9,xx 14 1 9,xx 15 2 9,al 6 [zi,zb,zi,zn],st 4 6 13,mm 7 14,mm 8 15] (sr [lk 16 4 6,mm 17 8,st 4 4 16,mm 5 17] .ret)))
def fn144:Fn Qb 144 18 dc144 [.cell (some 4) 4,.t 5]:=Am func144
def dc145:DC:=(sr [ob 2 0,al 4 [zi,zb,zi,zn],oo 5 (.mv (.c (.slice true [] []))),ci 6 0] (sr [lk 7 4 2,mm 8 1,cc 9 249 [(.t 7),(.t 8),(.c (.fn 252 []))],xx 10 0 9,xx 11 1 9,xx 12 2 9,st 4 4 10,mm 5 11,mm 6 12] .ret))
def fn145:Fn Qb 145 13 dc145 [.cell (some 4) 4,.t 5,.t 6]:=Am func145
def dc341:DC:=(sr [cb 4 false] (sr [mm 5 0,mm 6 1,c2 7 387 5 6,bi 8 .geq 7 0,mm 4 8] .ret))
def fn341:Fn Qb 341 9 dc341 [.t 4]:=Am func341
def dc387l0:DC:=(sr [bt 9 .lss 8 7] (.seq (cd 9 .skip (.exit 0)) (.seq (.block 1 (sr [mm 10 8,mm 5 10] (sr [mm 11 1,mm 12 0,mm 13 5,ii 14 1 12 13,ll 15 14,bt 16 .eql 11 15] (cd 16 (sr [mm 17 5,mm 4 17] .ret) .skip)))) (.row [bi 18 .add 8 1,mm 8 18]))))
def dc387:DC:=(sr [ci 4 0] (.seq (sr [mm 6 0,nn 7 false 6,ci 8 0] (.block 0 (.loop dc387l0))) (sr [oo 4 (.mv (.c (.int .i64 (-1))))] .ret)))
def fn387:Fn Qb 387 19 dc387 [.t 4]:=Am func387
def dc340l0:DC:=(sr [bt 29 .lss 28 27] (.seq (cd 29 .skip (.exit 0)) (.seq (.block 1 (sr [ii 30 3 26 28,lk 31 3 30,al 6 [zi,zb,zb],st 3 6 31] (.drawn [mm 32 4,ff 33 0 6,ll 34 33,oo 35 (.conv .u8 (.t 34)),ff 36 1 6,ll 37 36,c1 38 386 37,ff 39 2 6,ll 40 39,c1 41 386 40,oo 42 (.bin .shl (.t 41) (.c (.int .u64 1))),bt 43 .or 38 42,oo 44 (.bslice 5 1 [(.t 35),(.t 43)]),ap 45 5 1 1 32 44,mm 4 45] [(6,2),(6,8),(9,2)]))) (.row [bi 46 .add 28 1,mm 28 46]))))
def dc340:DC:=(sr [ob 1 0,cs 2 [],ci 3 0] (.seq (.seq (.drawn [lk 7 4 1,cc 8 335 [],c2 9 191 7 8,bi 10 .neq 9 0] [(1,0)]) (cd 10 (sr [cs 2 [],ci 3 2] .ret) .skip)) (.seq (.drawn [ff 11 0 1,ll 12 11,oo 13 (.conv .u8 (.t 12)),ff 14 1 1,ll 15 14,c1 16 386 15,ff 17 2 1,ll 18 17,oo 19 (.conv .u8 (.t 18)),ff 20 3 1,ll 21 20,nn 22 false 21,oo 23 (.conv .u8 (.t 22)),oo 24 (.bslice 5 1 [(.t 13),(.t 16),(.t 19),(.t 23)]),mm 4 24] [(5,1),(5,7),(5,10)]) (.seq (sr [ff 25 3 1,ll 26 25,nn 27 false 26,ci 28 0] (.block 0 (.loop dc340l0))) (sr [mm 47 4,oo 48 (.b2s (.t 47)),mm 2 48,ci 3 0] .ret)))))
def fn340:Fn Qb 340 49 dc340 [.t 2,.t 3]:=Am func340
def dc386:DC:=(sr [oo 2 (.mv (.c (.int .u8 0)))] (.seq (sr [mm 3 0] (cd 3 (sr [oo 2 (.mv (.c (.int .u8 1)))] .ret) .skip)) (sr [oo 2 (.mv (.c (.int .u8 0)))] .ret)))
def fn386:Fn Qb 386 4 dc386 [.t 2]:=Am func386
end Go.Vd
namespace Go.Vd
section
variable{α:Type}(lt:α->α->Bool)(d:α)
def swp(xs:List α)(j:Nat):List α:=(xs.set (j+1) (xs.getD j d)).set j (xs.getD (j+1) d)
def insE(xs:List α):Nat->List α
 |0=>xs
 |j+1=>if lt (xs.getD (j+1) d) (xs.getD j d)=true then insE (swp d xs j) j else xs
def CX:Nat->Nat->List α->List α
 |0,_,xs=>xs
 |f+1,i,xs=>CX f (i+1) (insE lt d xs i)
def kR(l:List α)(m:α):Nat->Nat
 |0=>0
 |j+1=>if lt m (l.getD j d)=true then kR l m j else j+1
def kR_le(l:List α)(m:α):∀j,kR lt d l m j<=j
 |0=>QA _
 |j+1=>by
  unfold kR;split
  ·exact Nat.le_succ_of_le (kR_le l m j)
  ·exact QA _
def swp_len(xs:List α)(j:Nat):(swp d xs j).length=xs.length:=by simp[swp]
def insE_len:∀(j:Nat)(xs:List α),(insE lt d xs j).length=xs.length
 |0,xs=>rfl
 |j+1,xs=>by
  unfold insE;split
  ·rw[insE_len j,swp_len]
  ·rfl
def F5:∀(f i:Nat)(xs:List α),(CX lt d f i xs).length=xs.length
 |0,_,xs=>rfl
 |f+1,i,xs=>by rw[CX,F5 f,insE_len]
def swp_app(a b:List α)(x y:α):swp d (a++x::y::b) a.length=a++y::x::b:=by
 unfold swp;have h1:(a++x::y::b).getD a.length d=x:=by simp[QX]
 have h2:(a++x::y::b).getD (a.length+1) d=y:=by
  simp[QX]
 rw[h1,h2,Zs _ _ (by omega),show a.length+1-a.length=1 by omega,Zs _ _ (QA _)];simp
def insE_app(l:List α)(m:α):∀(j:Nat)(b:List α),j<=l.length->insE lt d (l.take j++m::b) j=l.take (kR lt d l m j)++m::((l.take j).drop (kR lt d l m j)++b)
 |0,b,_=>by simp[insE,kR]
 |j+1,b,h=>by
  have hlen:(l.take j).length=j:=by rw[QD];omega
  have hx:l.take (j+1)=l.take j++[l.getD j d]:=by
   rw[Q7 (by omega)];simp[QX,Qd (show j<l.length by omega)]
  have e:l.take (j+1)++m::b=l.take j++l.getD j d::m::b:=by rw[hx];simp
  have g1:(l.take j++l.getD j d::m::b).getD (j+1) d=m:=by
   rw[QX,QJ (by omega),hlen,show j+1-j=1 by omega];rfl
  have g2:(l.take j++l.getD j d::m::b).getD j d=l.getD j d:=by
   rw[QX,QJ (by omega),hlen,Nat.sub_self];rfl
  rw[e];unfold insE kR;rw[g1,g2];split
  ·have hs:=swp_app d (l.take j) b (l.getD j d) m;rw[hlen]at hs;rw[hs,insE_app l m j (l.getD j d::b) (by omega),hx];have hk:=kR_le lt d l m j;rw[List.drop_append_of_le_length (by omega)];simp
  ·have:(l.take (j+1)).drop (j+1)=[]:=List.drop_eq_nil_of_le (by rw[QD];omega);rw[this,hx];simp
def insE_still{xs:List α}{i:Nat}(h:lt (xs.getD i d) (xs.getD (i-1) d)=false):insE lt d xs i=xs:=by
 cases i with
 |zero=>rfl
 |succ j=>
  unfold insE;rw[Nat.add_sub_cancel]at h;rw[if_neg (by rw[h];exact Q3)]
def isort_app(l:List α)(m:α)(hs:∀i,i+1<l.length->lt (l.getD (i+1) d) (l.getD i d)=false):
  ∀(f i:Nat),1<=i->i+f=l.length+1->CX lt d f i (l++[m])=if f=0 then l++[m]else l.take (kR lt d l m l.length)++m::l.drop (kR lt d l m l.length)
 |0,i,_,_=>by simp[CX]
 |f+1,i,hi,h=>by
  rw[if_neg (Qn f)];unfold CX;by_cases hf:f=0
  ·subst hf;have:i=l.length:=by omega
   subst this;have:=insE_app lt d l m l.length [] (QA _);simp only[List.take_length,Q2]at this;unfold CX;exact this
  ·have hil:i<l.length:=by omega
   have g1:(l++[m]).getD i d=l.getD i d:=by simp[QX,QV hil]
   have g2:(l++[m]).getD (i-1) d=l.getD (i-1) d:=by simp[QX,QV (show i-1<l.length by omega)]
   rw[insE_still lt d (by rw[g1,g2];have:=hs (i-1) (by omega);rwa [show i-1+1=i by omega]at this),isort_app l m hs f (i+1) (by omega) (by omega),if_neg hf]
end
end Go.Vd
namespace Go.Vd
open Go.RowKit
def D.plain:D->Bool
 | .bool _| .int _ _| .str _=>true
 |_=>false
def Rep.plain{w w':World}{g g':Gh}{d:D}{v:Value}(h:Rep w g d v)(hp:d.plain=true):Rep w' g' d v:=by
 cases h with
 |bool b=>exact .bool b
 |int k n=>exact .int k n
 |str s=>exact .str s
 |_=>cases hp
def ownS(F:List D->Option (List D)):Summ where
 rd:=λ_ _=>[]
 ex:=λds _ fr=>if(ds.map D.un).all D.calm=true then(F (ds.map D.un)).map λxs=>(.row fr xs.length,[(fr,0,flat xs)])else none
section
variable{P:Program}{B:Nat}{w0 w w':World}{m:Mem}{g:Gh}
def InvM.adopt(h:InvM P B w0 m w g)(hb:Below w.heap.size w w'){fr:Id}(hf:BO m g fr){b:Nat}(hbw:w.heap.size<=b){cur:Array Value}{T:TypeId}(hh:w'.heap[b]?=some (.cells cur T (0,0))){ds:List D}
  (hc:∀(j:Nat) d,ds[j]?=some d->d.plain=true∧∃v,cur[j]?=some v∧v.oneCell'=true∧Rep w' (g.obj fr b) d v):
  InvM P B w0 (m.put fr 0 ds) w' (g.obj fr b)∧Ext w g w' (g.obj fr b):=by
 have x:Ext w g w' (g.obj fr b):=by
  refine⟨λp hp=>?_,λb=>QA _,λi' b h=>?_,rfl,λi x h=>h⟩
  ·by_cases hlt:p.block<w.heap.size
   ·exact hb.cell hlt
   ·rw[h.gz _ (by omega)]at hp;omega
  ·simp only[Gh.obj];split
   ·rename_i e;subst e;rw[hf.2.1]at h;cases h
   ·exact h
 refine⟨?_,x⟩;have ne:∀i' b',g.dl i'=some b'->i'≠fr:=λi' b' hb e=>by subst e;rw[hf.2.1]at hb;cases hb
 have hput:∀o d,m.put fr 0 ds fr o=some d->ds[o]?=some d:=by
  intro o d hm;by_cases ho:o<ds.length
  ·have hm':m.put fr 0 ds fr (0+o)=ds[o]?:=Mem.put_same ho;rw[QC]at hm';rw[←hm'];exact hm
  ·rw[Mem.put_out (by omega),hf.1 o]at hm;cases hm
 have hpl:∀{o d},m.put fr 0 ds fr o=some d->d.plain=true:=λhm=>(hc _ _ (hput _ _ hm)).1
 have oth:∀{i o d},m.put fr 0 ds i o=some d->d.plain=false->i≠fr∧m i o=some d:=by
  intro i o d hm hd;by_cases e:i=fr
  ·subst e;rw[hpl hm]at hd;cases hd
  ·rw[Mem.put_other e]at hm;exact⟨e,hm⟩
 refine⟨h.below.trans (hb.mono h.size),Q8 h.size hb.size,λb' hb'=>h.gz b' (Q8 hb.size hb'),h.old,λi' b' hi=>?_,λi1 i2 b' h1 h2=>?_,λi' o d hm hd=>?_,λi' e hi=>?_,λi1 i2 e e' b' y y' h1 h2 h3 h4=>?_,h.itr.to (λi' s p e=>(oth e rfl).2) λi' b' s p _ _ _ e1 e2 e3=>?_⟩
 rotate_right
 ·have hlt:b'<w.heap.size:=(QZ.1 e1).1;refine⟨rfl,hb.block b' hlt,e2,λi1 h1=>?_⟩;simp only[Gh.obj]at h1;split at h1
  ·simp only[Qa]at h1;omega
  ·exact e3 i1 h1
 ·simp only[Gh.obj]at hi;split at hi
  ·rename_i e;subst e;simp only[Qa]at hi;subst hi;refine⟨Q8 h.size hbw,h.gz _ hbw,cur,T,hh,λo d hm=>?_⟩;exact(hc o d (hput o d hm)).2
  ·rename_i hne;obtain⟨p,q,vs',T',hh',r⟩:=h.obj i' b' hi;refine⟨p,q,vs',T',(hb.block b' (h.lt hi)).trans hh',λo d hm=>?_⟩;rw[Mem.put_other hne]at hm;obtain⟨v,r1,r2,r3⟩:=r o d hm;exact⟨v,r1,r2,r3.ext x⟩
 ·simp only[Gh.obj]at h1 h2;split at h1<;>split at h2
  ·simp_all
  ·simp only[Qa]at h1;subst h1;have:=h.lt h2;omega
  ·simp only[Qa]at h2;subst h2;have:=h.lt h1;omega
  ·exact h.inj _ _ _ h1 h2
 ·simp only[Gh.obj]at hd;split at hd
  ·cases hd
  ·rename_i hne;rw[Mem.put_other hne]at hm;exact h.kind _ _ _ hm hd
 ·obtain⟨hne,hi⟩:=oth hi rfl;obtain⟨b1,n,c,sz,cur',t1,t2,t3,t4,t5,t6,t7,t8,t9,t10⟩:=h.tok i' e hi;have hlt:b1<w.heap.size:=(QZ.1 t5).1;refine⟨b1,n,c,sz,cur',t1,t2,t3,t4,(hb.block b1 hlt).trans t5,t6,t7,t8,t9,λi1 h1=>?_⟩;simp only[Gh.obj]at h1;split at h1
  ·simp only[Qa]at h1;omega
  ·exact t10 i1 h1
 ·exact h.tinj _ _ _ _ _ _ _ (oth h1 rfl).2 (oth h2 rfl).2 h3 h4
end
section
variable{P:Program}{S:Summs}{f:FuncId}{N:Nat}{dc:DC}{rs:List RV}
def own_ok(hS:Summs.ok P S)(hf:Fn P f N dc rs){F:List D->Option (List D)}(hN:∀ds r,F ds=some r->ds.length<=N)
  (hF:∀ds xs,F ds=some xs->(∀x∈flat xs,x.plain=true)∧dc.wp S [] (DO rs λd m'=>∃t e,d= .slice false t xs∧t≠[]∧m' t 0=some (.tok (e+1))) ⟨Bx ds,λ_ _=>none,0⟩):(ownS F).ok P f:=by
 obtain⟨fn,code,h1,h2,h3,h4,h5,h6⟩:=hf.is;refine⟨⟨fn,h1,by rw[h2];rfl,h3⟩,λds m m' fr _=>rfl,?_⟩;intro B w0 w m g fr ds vs r u hi hfresh hl hrep hex;simp only[ownS]at hex;split at hex
 ·rename_i hcalm;rw[Qr]at hex;obtain⟨xs,hr,hex⟩:=hex;simp only[QE]at hex;obtain⟨rfl,rfl⟩:=hex;obtain⟨hpl,hwp⟩:=hF _ _ hr;have hi0:=start_inv P w hi.gz;have hrep0:∀(j:Nat) d v,(ds.map D.un)[j]?=some d->vs[j]?=some v->Rep w (CG g.G) d v:=by
   intro j d v hd hv;have hc:=Qw.1 hcalm d (QI hd);rw[QW,Qr]at hd;obtain⟨d',hd',rfl⟩:=hd;exact(hrep j d' v hd' hv).un.calm_to hc (λ_ _=>rfl) (λ_=>QA _)
  have hcalls:=FO (B:=w.heap.size) (w0:=w) (w:=w) (g:=CG g.G) (ns:=[]) (m:=λ_ _=>none) (ds:=ds.map D.un) (vs:=vs) hS hf (hN _ _ hr) hi0 (λk i _=>⟨λ_=>rfl,rfl,rfl⟩) (by simpa using hl) hrep0 hwp;refine hcalls.mono ?_;rintro e w' ⟨v,d,m',g',rfl,hinv,hext,_,hrd,t,e',rfl,ht,htok⟩;obtain⟨b,n,c,sz,cur,t1,t2,t3,t4,t5,t6,t7,t8,t9,t10⟩:=hinv.tok t e' htok;rcases hrd.slice_inv with ⟨h,_⟩|⟨_,ad,n',c',sz',vv,rfl,q1,q2,q3,q4,q5,q6,q7,q8,q9⟩
  ·cases h
  ·obtain⟨q8a,q8b,q8c⟩:=q8 ht;rw[t1]at q8c;simp only[Qa,QE]at q8c;obtain⟨hb,hn,hc,hsz⟩:=q8c;have had:ad=⟨b,0,none⟩:=by
    cases ad;simp only at hb q8a q8b;subst hb q8a q8b;rfl
   subst had;subst hn hc hsz;have hfl:=BV q3;obtain⟨i1,i2⟩:=hi.adopt hinv.below (hfresh fr (List.suffix_refl _)) t2 t5 (ds:=flat xs) (λj d hd=>by
    have hj:j<n*sz:=by rw[q1,←hfl];exact(Qs.1 hd).1
    have hp:=hpl d (QI hd);have hcell:=q4 j hj;rw[Fj,QC]at hcell;refine⟨hp,vv j,?_,q5 j hj,(q6 j d hd).plain hp⟩;simpa[World.cell?,t5]using hcell)
   refine⟨_,g.obj fr b,rfl,i1,i2,?_,λi hf hne=>El hf hne _ _⟩;rw[←q1];exact .row fr n c b q2 (by simp[Gh.obj])
 ·cases hex
def SetC(m:Mem)(d r:D):Prop:=r=d.un∨∃i xs sz,d= .row i xs.length∧r= .slice false [] xs∧(∀x∈xs,x.calm=true∧x.cells.length=sz)∧∀(j:Nat) x,(flat xs)[j]?=some x->m i j=some x
def SetL(p:D->D->Prop):List D->List D->Prop
 |[],[]=>True
 |c::cs,x::xs=>p c x∧SetL p cs xs
 |_,_=>False
def SetD(m:Mem)(d r:D):Prop:=SetC m d r∨∃cs xs,d= .agg cs∧r= .agg xs∧SetL (SetC m) cs xs
def SetR(m:Mem)(d r:D):Prop:=(r.calm=true∧SetD m d r)∨∃cs xs,d= .tup cs∧r= .tup xs∧SetL (SetD m) cs xs
def SetL.get{p:D->D->Prop}:∀{cs xs:List D},SetL p cs xs->cs.length=xs.length∧∀(j:Nat) c x,cs[j]?=some c->xs[j]?=some x->p c x
 |[],[],_=>⟨rfl,by simp⟩
 |c::cs,x::xs,h=>by
  obtain⟨h1,h2⟩:=h;obtain⟨a,b⟩:=SetL.get h2;refine⟨by simp[a],λj c' x' hc hx=>?_⟩;cases j with
  |zero=>simp only[Qg,Qa]at hc hx;subst hc hx;exact h1
  |succ j=>simp only[QB]at hc hx;exact b j c' x' hc hx
 |[],_::_,h=>h.elim
 |_::_,[],h=>h.elim
def fun_set(hS:Summs.ok P S)(hf:Fn P f N dc rs){F:List D->Option D}(hN:∀ds r,F ds=some r->ds.length<=N)
  (hF:∀ds r,F ds=some r->r.calmR=true∧dc.wp S [] (DO rs λd m'=>SetR m' d r) ⟨Bx ds,λ_ _=>none,0⟩):(Ac F).ok P f:=by
 obtain⟨fn,code,h1,h2,h3,h4,h5,h6⟩:=hf.is;refine⟨⟨fn,h1,by rw[h2];rfl,h3⟩,λds m m' fr _=>rfl,?_⟩;intro B w0 w m g fr ds vs r u hi hfresh hl hrep hex;simp only[Ac]at hex;split at hex
 ·rename_i hcalm;rw[Qr]at hex;obtain⟨r',hr,hex⟩:=hex;simp only[QE]at hex;obtain⟨rfl,rfl⟩:=hex;obtain⟨hcr,hwp⟩:=hF _ _ hr;have hi0:=start_inv P w hi.gz;have hrep0:∀(j:Nat) d v,(ds.map D.un)[j]?=some d->vs[j]?=some v->Rep w (CG g.G) d v:=by
   intro j d v hd hv;have hc:=Qw.1 hcalm d (QI hd);rw[QW,Qr]at hd;obtain⟨d',hd',rfl⟩:=hd;exact(hrep j d' v hd' hv).un.calm_to hc (λ_ _=>rfl) (λ_=>QA _)
  have hcalls:=FO (B:=w.heap.size) (w0:=w) (w:=w) (g:=CG g.G) (ns:=[]) (m:=λ_ _=>none) (ds:=ds.map D.un) (vs:=vs) hS hf (hN _ _ hr) hi0 (λk i _=>⟨λ_=>rfl,rfl,rfl⟩) (by simpa using hl) hrep0 hwp;refine hcalls.mono ?_;rintro e w' ⟨v,d,m',g',rfl,hinv,hext,_,hrd,hset⟩
  let G':Nat->Nat:=λb=>max (g'.G b) (match w'.heap[b]? with|some (.cells c _ _)=>c.size|_=>0)
  have hGle:∀b,g'.G b<=(g.glue w G').G b:=by
   intro b;simp only[Gh.glue];split
   ·rename_i hlt;rw[hinv.old b hlt,hext.G0];exact QA _
   ·exact Nat.le_max_left ..
  have hGz:∀b,w'.heap.size<=b->G' b=0:=by
   intro b hb;simp only[G'];rw[Array.getElem?_eq_none hb,hinv.gz b hb];rfl
  have hC:∀{d r:D} {v:Value},Rep w' g' d v->SetC m' d r->r.calm=true->Rep w' (g.glue w G') r v:=by
   intro d r v h hs hc;rcases hs with rfl|⟨i,xs,sz,rfl,rfl,hx,hm⟩
   ·exact h.un.calm_to hc (λ_ _=>rfl) hGle
   ·obtain⟨b,cap,rfl,hcap,hb⟩:=h.row_inv;obtain⟨hBb,hGb,cur,T,hheap,hobj⟩:=hinv.obj i b hb;have hfl:=BV λx h=>(hx x h).2
    have hvl:∀(j:Nat),j<(flat xs).length->∃v,cur[j]?=some v∧v.oneCell'=true∧∃x,(flat xs)[j]?=some x∧Rep w' g' x v:=by
     intro j hj;obtain⟨v',r1,r2,r3⟩:=hobj j _ (hm j _ (Qd hj));exact⟨v',r1,r2,_,Qd hj,r3⟩
    have hsz:(flat xs).length<=cur.size:=by
     rcases Nat.eq_zero_or_pos (flat xs).length with h|h
     ·omega
     ·obtain⟨v',r1,_⟩:=hvl ((flat xs).length-1) (by omega);have:=(QZ.1 r1).1;omega
    have hcalm:∀x∈xs,x.calm=true:=λx h=>(hx x h).1
    refine Rep.ofRow (sz:=sz) (cur:=cur) (vs:=cur.toList.take (flat xs).length) hheap rfl hcap (λx h=>(hx x h).2) ⟨by simp;omega,λv hv=>?_,λj x v hx' hv=>?_⟩ (λj v hv=>?_) ?_ (λh=>absurd rfl h) hcalm
    ·obtain⟨j,hj,rfl⟩:=Zh hv;have hj':j<(flat xs).length:=Nat.lt_of_lt_of_le hj (Zu _ _);obtain⟨v',r1,r2,_⟩:=hvl j hj';have:(cur.toList.take (flat xs).length)[j]?=some v':=by rw[Q1 hj'];simpa using r1
     rw[Qd hj]at this;rw[Zf this];exact r2
    ·have hj':j<(flat xs).length:=(Qs.1 hx').1;obtain⟨v',r1,r2,x',hx2,r3⟩:=hvl j hj';rw[hx']at hx2;obtain rfl:=Zf hx2;have:(cur.toList.take (flat xs).length)[j]?=some v':=by rw[Q1 hj'];simpa using r1
     rw[hv]at this;obtain rfl:=Zf this;exact r3.calm_to (calm_flat hcalm x (QI hx')) (λ_ _=>rfl) hGle
    ·have hj:j<(flat xs).length:=Nat.lt_of_lt_of_le (Qs.1 hv).1 (Zu _ _);rw[Q1 hj]at hv;simpa using hv
    ·rw[←hfl];simp only[Gh.glue,G'];rw[if_neg (by omega),hheap];exact Q8 hsz (Nat.le_max_right ..)
  have hD:∀{d r:D} {v:Value},Rep w' g' d v->SetD m' d r->r.calm=true->Rep w' (g.glue w G') r v:=by
   intro d r v h hs hc;rcases hs with hs|⟨cs,xs,rfl,rfl,hL⟩
   ·exact hC h hs hc
   ·obtain⟨us,rfl,k1,k2,k3⟩:=A1.ofAgg h;obtain⟨l1,l2⟩:=hL.get;refine .agg _ us (by rw[k1,l1]) k2 (λj x v hx hv=>?_);have hj:j<cs.length:=by rw[l1];exact(Qs.1 hx).1
    exact hC (k3 j _ v (Qd hj) hv) (l2 j _ x (Qd hj) hx) (calm_agg hc x (QI hx))
  refine⟨v,g.glue w G',rfl,hi.glue hinv.below hGz,Ext.glue hi.gz hinv.below,?_,λi hf _=>hf⟩;rcases hset with ⟨hc,hs⟩|⟨cs,xs,rfl,rfl,hL⟩
  ·exact hD hrd hs hc
  ·obtain⟨us,rfl,k1,k2⟩:=hrd.tup_inv;obtain⟨l1,l2⟩:=hL.get;refine .tup _ us (by rw[k1,l1]) (λj x v hx hv=>?_);have hj:j<cs.length:=by rw[l1];exact(Qs.1 hx).1
   simp only[D.calmR,Qw]at hcr;exact hD (k2 j _ v (Qd hj) hv) (l2 j _ x (Qd hj) hx) (hcr x (QI hx))
 ·cases hex
end
def isSl:D->Bool
 | .slice _ _ _=>true
 |_=>false
def EF:List D->Nat
 |[]=>0
 | .slice _ _ xs::r=>xs.length+EF r
 |_::r=>EF r
def catD_len:∀{L ys:List D},En L=some ys->ys.length=EF L∧L.all isSl=true
 |[],ys,h=>by simp only[En,Qa]at h;subst h;exact⟨rfl,rfl⟩
 |x::r,ys,h=>by
  unfold En at h;split at h
  ·rename_i heq;cases heq
  ·rename_i nl t xs r' heq;cases heq;rw[Qr]at h;obtain⟨zs,hz,rfl⟩:=h;obtain⟨h1,h2⟩:=catD_len hz;exact⟨by simp[EF,h1],by simp[isSl,h2]⟩
  ·cases h
def szB(sz:Nat)(d:D):Bool:=d.cells.length==sz
def headSz_szB{sz:Nat}{ys:List D}(h:ys.all (szB sz)=true):D.headSz ys sz=sz:=by
 cases ys with
 |nil=>rfl
 |cons y r=>
  have:=Qw.1 h y (List.mem_cons_self ..);simpa[D.headSz,szB]using this
def catB{n bytes:Nat}(hby:bytes<=1000000)(hn:n<=100000):n*(bytes+1)<=140737488355328:=Q8 (Nat.mul_le_mul hn (Nat.succ_le_succ hby)) (by omega)
def growU_at{m:Mem}{e:Nat}{fr t:Id}{nl:Bool}{xs:List D}:Upd.app m (Bg e fr (.slice nl t xs)) fr 0=some (.tok (e+1)):=by
 cases nl<;>simp[Bg,Upd.app,Bm]
def dcCat0(pt:Nat):DC:=(.seq (.row [⟨some 12,.bin .lss (.t 11) (.t 10),[],none⟩]) (.seq (.cond (.t 12) .skip (.exit 0)) (.seq (.block 1 (.seq (.row [⟨some 13,.iaddr 1 (.t 9) (.t 11),[],none⟩,⟨some 14,.load none (.t 13),[],none⟩,⟨some 5,.mv (.t 14),[],none⟩]) (.seq (.row [⟨some 15,.mv (.t 3),[],none⟩,⟨some 16,.mv (.t 5),[],none⟩,⟨some 17,.len false (.t 16),[],none⟩,⟨some 18,.bin .add (.t 15) (.t 17),[],none⟩,⟨some 3,.mv (.t 18),[],none⟩]) (.seq (.row [⟨some 19,.mv (.t 3),[],none⟩,⟨some 20,.bin .lss (.t 19) (.c (.int .i64 0)),[],none⟩]) (.cond (.t 20) (.row [⟨some 21,.mkif pt (.c (.str [108,101,110,32,111,117,116,32,111,102,32,114,97,110,103,101])),[],none⟩,⟨none,.stop,[],none⟩]) .skip))))) (.row [⟨some 22,.bin .add (.t 11) (.c (.int .i64 1)),[],none⟩,⟨some 11,.mv (.t 22),[],none⟩]))))
def dcCat1(e sz bytes:Nat):DC:=(.seq (.row [⟨some 28,.bin .lss (.t 27) (.t 26),[],none⟩]) (.seq (.cond (.t 28) .skip (.exit 2)) (.seq (.block 3 (.seq (.row [⟨some 29,.iaddr 1 (.t 25) (.t 27),[],none⟩,⟨some 30,.load none (.t 29),[],none⟩,⟨some 8,.mv (.t 30),[],none⟩]) (.row [⟨some 31,.mv (.t 6),[],none⟩,⟨some 32,.mv (.t 8),[],none⟩,⟨some 33,.app e sz bytes (.t 31) (.t 32),[],none⟩,⟨some 6,.mv (.t 33),[],none⟩]))) (.row [⟨some 34,.bin .add (.t 27) (.c (.int .i64 1)),[],none⟩,⟨some 27,.mv (.t 34),[],none⟩]))))
def FM(pt e sz bytes gf:Nat):DC:=(.seq (.row [⟨some 2,.mv (.c (.slice true [] [])),[],none⟩]) (.seq (.row [⟨some 3,.mv (.c (.int .i64 0)),[],none⟩]) (.seq (.seq (.row [⟨some 9,.mv (.t 0),[],none⟩,⟨some 10,.len false (.t 9),[],none⟩,⟨some 11,.mv (.c (.int .i64 0)),[],none⟩]) (.block 0 (.loop (dcCat0 pt)))) (.seq (.row [⟨some 23,.mv (.t 3),[],none⟩,⟨some 24,.call (.c (.fn gf [])) [(.c (.slice true [] [])),(.t 23)],[],none⟩,⟨some 6,.mv (.t 24),[],none⟩]) (.seq (.seq (.row [⟨some 25,.mv (.t 0),[],none⟩,⟨some 26,.len false (.t 25),[],none⟩,⟨some 27,.mv (.c (.int .i64 0)),[],none⟩]) (.block 2 (.loop (dcCat1 e sz bytes)))) (.seq (.row [⟨some 35,.mv (.t 6),[],none⟩,⟨some 2,.mv (.t 35),[],none⟩]) .ret))))))
def loopCat0{pt:Nat}{S:Summs}{ns:Id}{L:List D}{nl:Bool}{t:Id}{Q:Ex->St->Prop}(hb:L.length<=1000)(hall:L.all isSl=true)
  (hexit:∀(st:St),st.s 0= .slice nl t L->st.s 3= .int .i64 (EF L:Nat)->Q (.exit 0) st):
  ∀(R:List D)(k a:Nat) st g,L.drop k=R->k<=L.length->a+EF R=EF L->EF L<=1000000->st.s 0= .slice nl t L->st.s 9= .slice nl t L->st.s 10= .int .i64 (L.length:Nat)->st.s 11= .int .i64 (k:Nat)->st.s 3= .int .i64 (a:Nat)->
   A8 S ns (dcCat0 pt) Q st g:=by
 intro R;induction R with
 |nil=>
  intro k a st g hd hk ha hm h0 h9 h10 h11 h3;refine Ae (dcCat0.eq_1 pt) ?_;have hlen:L.length<=k:=by simpa using hd
  have:¬((k:Int)<L.length):=by omega
  simp only[↓go1,go2,go4,reduceIte,Qh,h10,h11,this];refine hexit _ ?_ ?_
  ·simp only[↓go1,reduceIte,Qf,h0]
  ·simp only[↓go1,reduceIte,Qf,h3];simp only[EF]at ha;rw[←ha];rfl
 |cons x R ih=>
  intro k a st g hd hk ha hm h0 h9 h10 h11 h3;refine Ae (dcCat0.eq_1 pt) ?_;have hkl:k<L.length:=by
   rcases Zv k L.length with h|h
   ·exact h
   ·rw[Q6 h]at hd;cases hd
  have hxk:L[k]?=some x:=by
   have:=congrArg (·[0]?) hd;simpa using this
  have hx:isSl x=true:=Qw.1 hall x (QI hxk);have hdr:L.drop (k+1)=R:=by
   rw[←List.drop_drop,hd];rfl
  match x,hx with
  | .slice nl' t' xs,_=>
   have hlt:((k:Int)<L.length):=by omega
   have hk0:(0:Int)<=(k:Int):=by omega
   have hxk':L[(k:Int).toNat]?=some (.slice nl' t' xs):=by simpa using hxk
   simp only[EF]at ha;have w1:IntKind.i64.wrap ((a:Int)+(xs.length:Int))=((a+xs.length:Nat):Int):=by rw[IntWalk.i64_in _ ⟨by omega,by omega⟩];simp
   have w2:IntKind.i64.wrap ((k:Int)+1)=((k+1:Nat):Int):=by rw[IntWalk.i64_in _ ⟨by omega,by omega⟩];simp
   have hneg:¬(((a+xs.length:Nat):Int)<0):=by omega
   simp only[↓go1,gB3,reduceIte,Qf,Qh,h9,h10,h11,h3,hlt,hk0,hxk',w1,w2,hneg];exact ih (k+1) (a+xs.length) _ _ hdr (by omega) (by omega) hm h0 h9 h10 rfl rfl
def loopCat1{e sz bytes:Nat}(hby:bytes<=1000000){S:Summs}{ns:Id}{L:List D}{nl0:Bool}{t0:Id}{Q:Ex->St->Prop}(hb:L.length<=1000)
  (hexit:∀(st:St)(nl:Bool)(t:Id)(ys:List D),En L=some ys->st.s 6= .slice nl t ys->(nl=true->ys=[])->Grow st.m e (.slice nl t ys)->Q (.exit 2) st):
  ∀(R:List D)(k:Nat)(acc zs:List D)(nl:Bool)(t:Id) st g,L.drop k=R->k<=L.length->En R=some zs->En L=some (acc++zs)->(acc++zs).all (szB sz)=true->(acc++zs).length<=100000->
   (nl=true->acc=[])->Grow st.m e (.slice nl t acc)->
   st.s 6= .slice nl t acc->st.s 25= .slice nl0 t0 L->st.s 26= .int .i64 (L.length:Nat)->st.s 27= .int .i64 (k:Nat)->
   A8 S ns (dcCat1 e sz bytes) Q st g:=by
 intro R;induction R with
 |nil=>
  intro k acc zs nl t st g hd hk hz hL hone hlen hnil hgrow h6 h25 h26 h27;refine Ae (dcCat1.eq_1 e sz bytes) ?_;have hlen':L.length<=k:=by simpa using hd
  have:¬((k:Int)<L.length):=by omega
  simp only[En,Qa]at hz;subst hz;simp only[↓go1,go2,go4,reduceIte,Qh,h26,h27,this];refine hexit _ nl t acc (by simpa using hL) ?_ hnil hgrow;simp only[↓go1,reduceIte,Qf,h6]
 |cons x R ih=>
  intro k acc zs nl t st g hd hk hz hL hone hlen hnil hgrow h6 h25 h26 h27;refine Ae (dcCat1.eq_1 e sz bytes) ?_;have hkl:k<L.length:=by
   rcases Zv k L.length with h|h
   ·exact h
   ·rw[Q6 h]at hd;cases hd
  have hxk:L[k]?=some x:=by
   have:=congrArg (·[0]?) hd;simpa using this
  have hdr:L.drop (k+1)=R:=by
   rw[←List.drop_drop,hd];rfl
  unfold En at hz;split at hz
  ·rename_i heq;cases heq
  ·rename_i nl' t' xs R' heq;cases heq;rw[Qr]at hz;obtain⟨zs',hz',rfl⟩:=hz;have hlt:((k:Int)<L.length):=by omega
   have hk0:(0:Int)<=(k:Int):=by omega
   have hxk':L[(k:Int).toNat]?=some (.slice nl' t' xs):=by simpa using hxk
   have w2:IntKind.i64.wrap ((k:Int)+1)=((k+1:Nat):Int):=by rw[IntWalk.i64_in _ ⟨by omega,by omega⟩];simp
   simp only[↓go1,gB3,reduceIte,Qf,Qh,h6,h25,h26,h27,hlt,hk0,hxk'];have hacc:(if nl=true then xs else acc++xs)=acc++xs:=BG hnil;refine ifQ.intro (λhc=>?_) (λhc=>?_)
   ·obtain⟨rfl,rfl⟩:=hc;obtain rfl:=hnil rfl;simp only[↓go1,go2,go3,reduceIte,Qf,Qh,h27,w2];exact ih (k+1) [] zs' true [] _ _ hdr (by omega) hz' (by simpa using hL) (by simpa using hone) (by simpa using hlen) (λ_=>rfl) (.inl rfl) rfl h25 h26 rfl
   ·have hxs:xs.all (szB sz)=true:=by
     rw[Zg,Zg]at hone;simp only[Q_]at hone;exact hone.2.1
    refine Ao.intro ⟨catB hby (by simp only[Qx]at hlen;omega),headSz_szB hxs,hgrow⟩ ?_;rw[hacc];simp only[↓go1,go2,go3,reduceIte,Qf,Qh,h27,w2];refine ih (k+1) (acc++xs) zs' false _ _ _ hdr (by omega) hz' (by simpa using hL) (by simpa using hone) (by simpa using hlen) (λh=>by cases h) (.inr ⟨growU_at,by simp⟩) rfl h25 h26 rfl
  ·cases hz
def FcatG(sz:Nat):List D->Option (List D)
 |[.slice _ _ L]=>match En L with
  |some ys=>if L.length<=1000∧0<ys.length∧ys.length<=100000∧ys.all (szB sz)=true then some ys else none
  |none=>none
 |_=>none
def cat_wp{P:Program}{f gf pt e sz bytes:Nat}(hby:bytes<=1000000){S:Summs}(hS:S gf=some (Dr e)){L ys:List D}{nl:Bool}{t:Id}(hys:En L=some ys)(c1:L.length<=1000)(c2:0<ys.length)(c3:ys.length<=100000)(c4:ys.all (szB sz)=true)
  {R:D->Mem->Prop} (hR:∀t m,Grow m e (.slice false t ys)->R (.slice false t ys) m):(FM pt e sz bytes gf).wp S [] (DO [.t 2] R) ⟨Bx [.slice nl t L],λ_ _=>none,0⟩:=by
 obtain⟨hl,hall⟩:=catD_len hys;unfold FM;simp only[↓go1,go2,reduceIte,Qf,Qh];refine loopCat0 c1 hall (λst h0 h3=>?_) L 0 0 _ _ rfl (by omega) (by simp) (by omega) rfl rfl rfl rfl rfl;simp only[↓go1,go2,go4,reduceIte,Qh,h3];rw[Ag hS];have hg:(Dr e).ex ([D.slice true [] [],D.int IntKind.i64 (EF L:Nat)]++[]) st.m [st.c+1]=some (.slice false [0,st.c+1] [],[([0,st.c+1],0,[.tok (e+1)])]):=by
  simp only[Dr,Q2];rw[if_pos ⟨by omega,by omega⟩]
 refine Got.intro hg ?_;simp only[↓go1,go2,reduceIte,Qf,Qh,h0];refine loopCat1 hby c1 (λst' nl' t' zs hz h6 hn hgr=>?_) L 0 [] ys false _ _ _ rfl (by omega) hys (by simpa using hys) (by simpa using c4) (by simpa using c3) (λh=>by cases h) (.inr ⟨?_,by simp⟩) rfl h0 rfl rfl
 ·rw[hys]at hz;simp only[Qa]at hz;subst hz;have hnl:nl'=false:=by
   cases nl' with
   |false=>rfl
   |true=>have:=hn rfl;subst this;simp at c2
  subst hnl;simp only[↓go1,go2,reduceIte,Qf,Qh,h6];exact hR _ _ hgr
 ·simp[Bm]
section
variable{P:Program}{f gf pt e sz bytes:Nat}
def FcatG_some{ds ys:List D}(h:FcatG sz ds=some ys):∃nl t L,ds=[.slice nl t L]∧En L=some ys∧L.length<=1000∧0<ys.length∧ys.length<=100000∧ys.all (szB sz)=true:=by
 unfold FcatG at h;split at h
 ·rename_i nl t L;split at h
  ·rename_i ys' hys;split at h
   ·rename_i hc;simp only[Qa]at h;subst h;exact⟨nl,t,L,rfl,hys,hc⟩
   ·cases h
  ·cases h
 ·cases h
def gS(gf e:Nat):Summs:=λf=>if f=gf then some (Dr e)else none
def gS_ok(hg:(Dr e).ok P gf):Summs.ok P (gS gf e):=by
 intro f q h;unfold gS at h;split at h
 ·simp only[Qa]at h;subst h;rename_i e;subst e;exact hg
 ·cases h
def cat_own(hf:Fn P f 36 (FM pt e sz bytes gf) [.t 2])(hby:bytes<=1000000)(hg:(Dr e).ok P gf):(ownS λds=>(FcatG sz ds).bind λys=>if(flat ys).all D.plain=true then some ys else none).ok P f:=by
 refine own_ok (gS_ok hg) hf (λds r h=>?_) (λds r h=>?_)
 ·rw[QN]at h;obtain⟨ys,h,_⟩:=h;obtain⟨nl,t,L,rfl,_⟩:=FcatG_some h;simp
 ·rw[QN]at h;obtain⟨ys,h,h2⟩:=h;split at h2
  ·rename_i hp;simp only[Qa]at h2;subst h2;obtain⟨nl,t,L,rfl,c0,c1,c2,c3,c4⟩:=FcatG_some h;refine⟨λx hx=>Qw.1 hp x hx,cat_wp (P:=P) (f:=f) hby (by simp[gS]) c0 c1 c2 c3 c4 λt m hgr=>?_⟩;rcases hgr with h|⟨h1,h2⟩
   ·cases h
   ·exact⟨t,e,rfl,h2,h1⟩
  ·cases h2
def cat_fun(hf:Fn P f 36 (FM pt e sz bytes gf) [.t 2])(hby:bytes<=1000000)(hg:(Dr e).ok P gf){F:List D->Option D}
  (hF:∀ds r,F ds=some r->∃nl t L ys,ds=[.slice nl t L]∧En L=some ys∧L.length<=1000∧0<ys.length∧ys.length<=100000∧ys.all (szB sz)=true∧r= .slice false [] ys):(Ac F).ok P f:=by
 refine Ay (gS_ok hg) hf (λds r h=>?_) (λds r h=>?_)
 ·obtain⟨nl,t,L,ys,rfl,_⟩:=hF ds r h;simp
 ·obtain⟨nl,t,L,ys,rfl,c0,c1,c2,c3,c4,rfl⟩:=hF ds r h;exact cat_wp (P:=P) (f:=f) hby (by simp[gS]) c0 c1 c2 c3 c4 λt m hgr=>⟨rfl,rfl⟩
end
def EP(n:Nat):UInt8:=if n<10 then UInt8.ofNat (48+n)else UInt8.ofNat (87+n)
def EQ(s:List UInt8):List UInt8:=s.flatMap λb=>[EP (b.toNat / 16),EP (b.toNat % 16)]
def DX:∀s:List UInt8,(EQ s).length=2*s.length
 |[]=>rfl
 |b::r=>by
  have:=DX r;simp only[EQ,Zm,Qx,Qz,QL]at this ⊢;omega
def EJ(a b:List UInt8):AD (a++b)=AD a++AD b:=by simp[AD]
def BZ(a:List UInt8):(AD a).length=a.length:=by simp[AD]
def CL:∀a:List UInt8,Bw (AD a)=some a
 |[]=>rfl
 |c::r=>by
  have h:=c.toNat_lt;show(Bw (AD r)).map _=_;rw[CL r];simp
def hexTab:∀n,n<16->([48,49,50,51,52,53,54,55,56,57,97,98,99,100,101,102]:List UInt8)[n]?=some (EP n):=by decide+kernel
def and15:∀n:Nat,n<256->bits .and .u8 (n:Int) 15=((n % 16:Nat):Int):=by decide+kernel
def shr4:∀n:Nat,n<256->(n:Int).fdiv (2 ^ min (4:Int).toNat IntKind.u8.bits)=((n / 16:Nat):Int):=by decide+kernel
def hexB_snoc(s:List UInt8)(c:UInt8):EQ (s++[c])=EQ s++[EP (c.toNat / 16),EP (c.toNat % 16)]:=by simp[EQ]
def Cp:List (List UInt8)->Nat
 |[]=>0
 |w::r=>w.length+Cp r
def strR(m:Mem)(i:Id):Nat->Nat->Option (List (List UInt8))
 |0,_=>some []
 |f+1,j=>match m i j,strR m i f (j+1)with
  |some (.str p),some l=>some (p::l)
  |_,_=>none
def strR_some{m:Mem}{i:Id}:∀{f j:Nat} {xs:List (List UInt8)},strR m i f j=some xs->xs.length=f∧∀k x,xs[k]?=some x->m i (j+k)=some (.str x)
 |0,j,xs,h=>by
  simp only[strR,Qa]at h;subst h;exact⟨rfl,by simp⟩
 |f+1,j,xs,h=>by
  unfold strR at h;split at h
  ·rename_i p l e1 e2;simp only[Qa]at h;subst h;obtain⟨r1,r2⟩:=strR_some e2;refine⟨by simp[r1],λk x hx=>?_⟩;cases k with
   |zero=>simp only[Qg,Qa]at hx;subst hx;exact e1
   |succ k=>
    have:=r2 k x (by simpa using hx);rw[show j+1+k=j+(k+1)by omega]at this;exact this
  ·cases h
def strR_loc{m m':Mem}{i:Id}:∀{f j n:Nat},j+f<=n->(∀o,o<n->m i o=m' i o)->strR m i f j=strR m' i f j
 |0,j,n,_,_=>rfl
 |f+1,j,n,hn,h=>by
  unfold strR;rw[h j (by omega),strR_loc (f:=f) (j:=j+1) (by omega) h]
def strR_of{m:Mem}{i:Id}:∀{xs:List (List UInt8)} {j:Nat},(∀k x,xs[k]?=some x->m i (j+k)=some (.str x))->strR m i xs.length j=some xs
 |[],j,_=>rfl
 |x::r,j,h=>by
  have h0:=h 0 x rfl;have hr:=strR_of (xs:=r) (j:=j+1) (λk y hy=>by have:=h (k+1) y (by simpa using hy);rw[show j+1+k=j+(k+1)by omega];exact this);simp only[Qz,strR,Zi]at h0 ⊢;rw[h0,hr]
def Dq:List (List UInt8)->List UInt8
 |[]=>[]
 |[w]=>w
 |w::v::r=>w++44::Dq (v::r)
def FH:∀l:List (List UInt8),(Dq l).length<=Cp l+l.length
 |[]=>by simp[Dq]
 |[w]=>by simp[Dq,Cp]
 |w::v::r=>by
  have:=FH (v::r);simp only[Dq,Qx,Qz,Cp]at this ⊢;omega
def joinC_eq:∀l:List (List UInt8),Lib.join l [44]=Dq l
 |[]=>rfl
 |[w]=>Lib.join_one w [44]
 |w::v::r=>by
  have ih:=joinC_eq (v::r);rw[Lib.join_cons]at ih;rw[Lib.join_cons,Dq,←ih];simp[Lib.joinTail]
def joinQ:Summ where
 rd:=λds _=>match ds with
  |[.row i n,_]=>(List.range n).map λo=>(i,o)
  |_=>[]
 ex:=λds m _=>match ds with
  |[.row i n,.str [44]]=>(strR m i n 0).bind λl=>if l.length<=1000∧Cp l<=1000000 then some (.str (Dq l),[])else none
  |_=>none
def joinQ_ok {P:Program} {ρ:Go.Shelf.Ren} (L:Go.Proofs.Lays.n156 P ρ) (X:Go.Proofs.Builder.Extra P ρ) (ent:∃fn,P.funcs[ρ.f 156]?=some fn∧fn.body.isSome=true∧(fn.name== "runtime.NumGoroutine")=false):joinQ.ok P (ρ.f 156):=by
 refine⟨ent,λds m m' fr h=>?_,?_⟩
 ·simp only[joinQ]at h ⊢;split
  ·rename_i i n;simp only at h;rw[strR_loc (m:=m) (m':=m') (n:=n) (by omega) λo ho=>h (i,o) (QF.2 ⟨o,by simpa using ho,rfl⟩)]
  ·rfl
 intro B w0 w m g fr ds vs r u hi hfresh hl hrep hex;simp only[joinQ]at hex;split at hex
 ·rename_i i n;rw[QN]at hex;obtain⟨l,hls,hex⟩:=hex;split at hex
  ·rename_i hc;obtain⟨c1,c2⟩:=hc;simp only[Qa,QE]at hex;obtain⟨rfl,rfl⟩:=hex
   match vs,hl with
   |[v,v1],_=>
    have h0:=hrep 0 _ v rfl rfl;have h1:=hrep 1 _ v1 rfl rfl;rw[h1.str_inv];obtain⟨b,c,rfl,hnc,hb⟩:=h0.row_inv;obtain⟨hl1,hl2⟩:=strR_some hls;obtain⟨hBb,hGb,cur,T,hheap,hobj⟩:=hi.obj i b hb;have hcell:∀(j:Nat) z,l[j]?=some z->w.cell? ⟨b,0+j,none⟩=some (.string ⟨z.toArray⟩):=by
     intro j z hz;have hm:=hl2 j z hz;rw[QC]at hm;obtain⟨v',r1,r2,r3⟩:=hobj j _ hm;rw[r3.str_inv]at r1;simp[World.cell?,hheap,r1]
    have hmap:(l.map λx=>(⟨x.toArray⟩:ByteArray)).map (·.data.toList)=l:=by simp[QQ,Function.comp_def]
    have hj:(⟨#[44]⟩:ByteArray).data.toList=[44]:=rfl;have hjl:=FH l;have:=Go.Proofs.Any.strings_Join L X b 0 c (l.map λx=>(⟨x.toArray⟩:ByteArray)) ⟨#[44]⟩ w (λj x hx=>by
     rw[QW,Qr]at hx;obtain⟨z,hz,rfl⟩:=hx;exact hcell j z hz) (hi.lt hb) (by simp;omega) (by simp;omega) (by rw[hmap,hj,joinC_eq];omega)
    rw[hmap,hj,joinC_eq,Qu,hl1]at this;refine this.mono ?_;rintro ev w' ⟨rfl,hb⟩;exact⟨_,g.over w w',rfl,hi.over hb,Ext.over hi.gz hb,.str _,λi hf _=>hf⟩
  ·cases hex
 ·cases hex
section
variable{P:Program}{B:Nat}{w0:World}{N:Nat}{ns:Id}{S:Summs}{t:Nat}
end
section
variable{P:Program}{S:Summs}{f:FuncId}{N:Nat}{dc a b:DC}{rs:List RV}{code:Code}
end
section
variable{P:Program}{B:Nat}{w0 w:World}{m:Mem}{g g0:Gh}{N:Nat}
end
section
variable{P:Program}{B:Nat}{w0:World}{N:Nat}{S:Summs}
end
def BJ(m:Mem)(e:Nat)(nl:Bool)(t:Id)(emp:Bool):Bool:=
 if nl=true then emp else match m t 0 with
  |some (.tok k)=>k==e+1&&!t.isEmpty
  |_=>false
def growT_grow{m:Mem}{e:Nat}{nl:Bool}{t:Id}{emp:Bool}{xs:List D}(h:BJ m e nl t emp=true):Grow m e (.slice nl t xs):=by
 unfold BJ at h;split at h
 ·rename_i h0;exact .inl h0
 ·split at h
  ·rename_i k hm;simp only[Q_,beq_iff_eq]at h;rw[h.1]at hm;exact .inr ⟨hm,by intro e;rw[e]at h;simp at h⟩
  ·cases h
def DY{m m':Mem}{e:Nat}{nl:Bool}{t:Id}{emp:Bool}(h:m t 0=m' t 0):BJ m e nl t emp=BJ m' e nl t emp:=by
 unfold BJ;rw[h]
def growT_grow'{m m':Mem}{e:Nat}{nl:Bool}{t:Id}{emp:Bool}{xs:List D}(h:BJ m e nl t emp=true)(hm:nl=false->m t 0=some (.tok (e+1))->m' t 0=m t 0):Grow m' e (.slice nl t xs):=by
 rcases growT_grow (xs:=xs) h with h0|⟨h1,h2⟩
 ·exact .inl h0
 ·cases nl with
  |true=>exact .inl rfl
  |false=>exact .inr ⟨by rw[hm rfl h1];exact h1,h2⟩
def Er{m:Mem}{e:Nat}{nl:Bool}{t:Id}{emp:Bool}(h:BJ m e nl t emp=true):nl=false->m t 0=some (.tok (e+1)):=by
 rintro rfl;rcases growT_grow (xs:=[]) h with h0|⟨h1,h2⟩
 ·cases h0
 ·exact h1
def CQ{m:Mem}{e:Nat}{f t i:Id}{nl:Bool}{xs:List D}{o:Nat}:Upd.app m (Bg e f (.slice nl t xs)) i o=if i=f∧o=0 then some (.tok (e+1))else if nl=false∧i=t∧o=0 then some (.tok 0)else m i o:=by
 cases nl<;>simp[Bg,Upd.app,Bm]
def toNat_ofNat{n:Nat}(h:n<256):(UInt8.ofNat n).toNat=n:=by simp[UInt8.toNat_ofNat'];omega
def u8_wrap(n:Int):IntKind.u8.wrap n=(((n % 256).toNat:Nat):Int):=by
 have h1:IntKind.u8.wrap n=n % 256:=by simp[IntKind.wrap,IntKind.bits,IntKind.signed]
 rw[h1];omega
structure Gd (e:Nat) (fr:Id) (m0:Mem) (nl0:Bool) (t0:Id) (m:Mem) (c:Nat) (t:Id):Prop where
 name:∃l j,t=l++j::fr∧j<c
 tok:m t 0=some (.tok (e+1))
 out:∀i o,¬fr<:+i->m i o=(if nl0=true then m0 else m0.put t0 0 [.tok 0]) i o
def Gs(e:Nat)(fr:Id)(m0:Mem)(nl0:Bool)(t0:Id)(m:Mem)(c:Nat)(nl:Bool)(t:Id):Prop:=
 (nl=nl0∧t=t0∧∀i o,¬fr<:+i->m i o=m0 i o)∨(nl=false∧Gd e fr m0 nl0 t0 m c t)
def suf_mk(l:List Nat)(j:Nat)(fr:Id):fr<:+l++j::fr:=⟨l++[j],by simp⟩
def mk_ne{l l':List Nat}{j k:Nat}{fr:Id}(h:j≠k):l++j::fr≠l'++k::fr:=by
 intro e;have e':=congrArg List.reverse e;simp only[List.reverse_append,List.reverse_cons,Q9,List.append_cancel_left_eq]at e';simp only[List.cons_append,QK,Qi]at e';exact h e'.1
section
variable{e:Nat}{fr:Id}{m0 m:Mem}{nl0 nl:Bool}{t0 t:Id}{c c' k o:Nat}{l:List Nat}{xs ds:List D}{emp:Bool}
def Gs.start:Gs e fr m0 nl0 t0 m0 c nl0 t0:= .inl ⟨rfl,rfl,λ_ _ _=>rfl⟩
def Gd.gs(h:Gd e fr m0 nl0 t0 m c t):Gs e fr m0 nl0 t0 m c false t:= .inr ⟨rfl,h⟩
def Gd.more(h:Gd e fr m0 nl0 t0 m c t)(hc:c<=c'):Gd e fr m0 nl0 t0 m c' t:=⟨by obtain⟨l,j,b,b'⟩:=h.name;exact⟨l,j,b,by omega⟩,h.tok,h.out⟩
def Gs.more(h:Gs e fr m0 nl0 t0 m c nl t)(hc:c<=c'):Gs e fr m0 nl0 t0 m c' nl t:=h.imp id (λ⟨a,b⟩=>⟨a,b.more hc⟩)
def old_out(hfr:∀i o,fr<:+i->m0 i o=none)(h:m0 t0 0=some (.tok (e+1))):¬fr<:+t0:=λhs=>by rw[hfr _ _ hs]at h;cases h
def out_put(i:Id)(o':Nat)(hi:¬fr<:+i):m.put (l++k::fr) o ds i o'=m i o':=Mem.put_other (λe=>hi (e▸suf_mk l k fr))
def Gd.put(h:Gd e fr m0 nl0 t0 m c t)(hk:c<=k):Gd e fr m0 nl0 t0 (m.put (l++k::fr) o ds) c t:=by
 refine⟨h.name,?_,λi o' hi=>(out_put i o' hi).trans (h.out i o' hi)⟩;obtain⟨l',j,b,b'⟩:=h.name;rw[Mem.put_other]
 ·exact h.tok
 ·rw[b];exact mk_ne (by omega)
def Gs.put(h:Gs e fr m0 nl0 t0 m c nl t)(hk:c<=k):Gs e fr m0 nl0 t0 (m.put (l++k::fr) o ds) c nl t:=by
 rcases h with ⟨a,b,d⟩|⟨a,h⟩
 ·exact .inl ⟨a,b,λi o' hi=>(out_put i o' hi).trans (d i o' hi)⟩
 ·exact .inr ⟨a,h.put hk⟩
def Gs.grow(h:Gs e fr m0 nl0 t0 m c nl t)(hfr:∀i o,fr<:+i->m0 i o=none)(h0:BJ m0 e nl0 t0 emp=true):Grow m e (.slice nl t xs):=by
 rcases h with ⟨rfl,rfl,d⟩|⟨a,h⟩
 ·exact growT_grow' h0 (λe1 e2=>d _ _ (old_out hfr e2))
 ·obtain⟨l',j,b,b'⟩:=h.name;exact .inr ⟨h.tok,by rw[b];simp⟩
def Gs.nil(h:Gs e fr m0 nl0 t0 m c nl t)(h0:BJ m0 e nl0 t0 emp=true):nl=true->emp=true:=by
 rcases h with ⟨rfl,rfl,d⟩|⟨a,_⟩
 ·rintro rfl;unfold BJ at h0;rw[if_pos rfl]at h0;exact h0
 ·rw[a];intro h;cases h
def Gs.app(h:Gs e fr m0 nl0 t0 m c nl t)(hk:c<=k)(hk':k<c'):Gd e fr m0 nl0 t0 (Upd.app m (Bg e (l++k::fr) (.slice nl t xs))) c' (l++k::fr):=by
 refine⟨⟨l,k,rfl,hk'⟩,by rw[CQ,if_pos ⟨rfl,rfl⟩],λi o hi=>?_⟩;have hne:i≠l++k::fr:=λe=>hi (e▸suf_mk l k fr)
 rw[CQ,if_neg (λx=>hne x.1)];rcases h with ⟨rfl,rfl,d⟩|⟨rfl,h⟩
 ·cases nl with
  |true=>rw[if_neg (λx=>by simp at x),d i o hi];rfl
  |false=>rw[d i o hi];simp[Bm]
 ·obtain⟨l',j,b,b'⟩:=h.name;have hni:i≠t:=λe=>hi (by rw[e,b];exact suf_mk l' j fr)
  rw[if_neg (λx=>hni x.2.1)];exact h.out i o hi
def Gd.fin(h:Gd e fr m0 nl0 t0 m c t)(hfr:∀i o,fr<:+i->m0 i o=none)(h0:BJ m0 e nl0 t0 emp=true):∀i o x,Upd.app m0 (Bg e t (.slice nl0 t0 xs)) i o=some x->m i o=some x:=by
 intro i o x hx;rw[CQ]at hx;by_cases h1:i=t∧o=0
 ·rw[if_pos h1]at hx;rw[h1.1,h1.2,h.tok];exact hx
 ·rw[if_neg h1]at hx;by_cases h2:nl0=false∧i=t0∧o=0
  ·obtain⟨rfl,rfl,rfl⟩:=h2;rw[if_pos ⟨rfl,rfl,rfl⟩]at hx;rw[h.out _ _ (old_out hfr (Er h0 rfl)),if_neg (by simp),Bm,if_pos ⟨rfl,rfl⟩];exact hx
  ·rw[if_neg h2]at hx;by_cases hi:fr<:+i
   ·rw[hfr i o hi]at hx;cases hx
   ·rw[h.out i o hi];cases nl0 with
    |true=>exact hx
    |false=>simp only[Zk,if_false,Bm];rw[if_neg (λx=>h2 ⟨rfl,x⟩)];exact hx
end
def opn_ok2{P:Program}{S:Summs}{f:FuncId}{N:Nat}{dc:DC}{rs:List RV}(hS:Summs.ok P S)(hf:Fn P f N dc rs){q:Summ}(hloc:∀ds m m' fr,(∀l∈q.rd ds m,m l.1 l.2=m' l.1 l.2)->q.ex ds m fr=q.ex ds m' fr)
  (hq:∀ds m fr r u,q.ex ds m fr=some (r,u)->(∀i o,fr<:+i->m i o=none)->ds.length<=N∧dc.wp S fr (DO rs λd m'=>d=r∧∀i o x,Upd.app m u i o=some x->m' i o=some x) ⟨Bx ds,m,0⟩):q.ok P f:=by
 obtain⟨fn,code,h1,h2,h3,h4,h5,h6⟩:=hf.is;refine⟨⟨fn,h1,by rw[h2];rfl,h3⟩,hloc,?_⟩;intro B w0 w m g fr ds vs r u hi hfresh hl hrep hex;have hfr:∀k i,(k::fr)<:+i->BO m g i:=λk i h=>hfresh i ((Zc k fr).trans h)
 obtain⟨hN,hwp⟩:=hq ds m fr r u hex (λi o h=>(hfresh i h).1 o);have hcalls:=FO (ns:=fr) hS hf hN hi hfr hl hrep hwp;refine hcalls.mono ?_;rintro e w' ⟨v,d,m',g',rfl,hinv,hext,hkeep,hrd,rfl,hle⟩;refine⟨v,g',rfl,hinv.less hle,hext,hrd,λi hf hn=>?_⟩;obtain⟨k1,k2,k3⟩:=hkeep i hf hn;refine⟨λo=>?_,k2,k3⟩;cases hx:Upd.app m u i o with
 |none=>rfl
 |some x=>exact absurd (k1 o) (by rw[hle i o x hx];simp)
def gQ(e:Nat)(F:List D->Option (List D×List Nat)):Summ where
 rd:=λds _=>match ds with
  | .slice _ t _::_=>[(t,0)]
  |_=>[]
 ex:=λds m fr=>match ds with
  | .slice nl t xs::rest=>if BJ m e nl t xs.isEmpty=true∧xs.length<=100000000 then(F rest).map λy=>(.slice false (y.2++fr) (xs++y.1),Bg e (y.2++fr) (.slice nl t xs))else none
  |_=>none
def gQ_loc{e:Nat}{F:List D->Option (List D×List Nat)}(ds:List D)(m m':Mem)(fr:Id)(h:∀l∈(gQ e F).rd ds m,m l.1 l.2=m' l.1 l.2):(gQ e F).ex ds m fr=(gQ e F).ex ds m' fr:=by
 simp only[gQ]at h ⊢;split
 ·rename_i nl t xs rest;rw[DY (h (t,0) (by simp))]
 ·rfl
def gQ_inv{e:Nat}{F:List D->Option (List D×List Nat)}{ds:List D}{m:Mem}{fr:Id}{d:D}{u:Upd}(h:(gQ e F).ex ds m fr=some (d,u)):
  ∃nl t xs rest ys l,ds= .slice nl t xs::rest∧BJ m e nl t xs.isEmpty=true∧xs.length<=100000000∧F rest=some (ys,l)∧d= .slice false (l++fr) (xs++ys)∧u=Bg e (l++fr) (.slice nl t xs):=by
 simp only[gQ]at h;split at h
 ·rename_i nl t xs rest;split at h
  ·rename_i hk;rw[Qr]at h;obtain⟨⟨ys,l⟩,hF,h⟩:=h;simp only[QE]at h;exact⟨nl,t,xs,rest,ys,l,rfl,hk.1,hk.2,hF,h.1.symm,h.2.symm⟩
  ·cases h
 ·cases h
def got_g{e:Nat}{F:List D->Option (List D×List Nat)}{m:Mem}{fr:Id}{nl:Bool}{t:Id}{xs rest ys:List D}{l:List Nat}{K:D×Upd->Prop}{g}(h0:Grow m e (.slice nl t xs))(hn:nl=true->xs=[])(hl:xs.length<=100000000)(hF:F rest=some (ys,l))
  (h:K (.slice false (l++fr) (xs++ys),Bg e (l++fr) (.slice nl t xs))):Got ((gQ e F).ex (.slice nl t xs::rest) m fr) K g:=by
 refine Got.intro ?_ h;have hg:BJ m e nl t xs.isEmpty=true:=by
  unfold BJ;cases nl with
  |true=>rw[if_pos rfl,hn rfl];rfl
  |false=>
   rcases h0 with h0|⟨h1,h2⟩
   ·cases h0
   ·rw[if_neg (by simp),h1];cases t with
    |nil=>exact absurd rfl h2
    |cons a b=>simp
 simp only[gQ];rw[if_pos ⟨hg,hl⟩,hF];rfl
def beB:Nat->Int->List UInt8
 |0,_=>[]
 |k+1,n=>UInt8.ofNat ((n.fdiv (2 ^ (8*k))) % 256).toNat::beB k n
def beB_len:∀k n,(beB k n).length=k
 |0,_=>rfl
 |k+1,n=>by simp[beB,beB_len k n]
def F7:D->Bool
 | .int .u8 _=>true
 |_=>false
def grownQ:Summ where
 rd:=λ_ _=>[]
 ex:=λds _ fr=>match ds with
  |[.slice _ _ xs,.int .i64 k]=>if 0<=k∧xs.all F7=true∧(xs.length:Int)+k<=140737488355328 then some (.slice false (0::fr) xs,[(0::fr,0,[.tok 6])])else none
  |_=>none
def cQ(e:Nat)(wr:D->D)(F:List D->Option (List D×List Nat)):Summ where
 rd:=λ_ _=>[]
 ex:=λds _ fr=>match ds with
  | .slice _ _ xs::rest=>if xs.all F7=true∧xs.length<=100000000 then(F rest).map λy=>(wr (.slice false (y.2++fr) (xs++y.1)),[(y.2++fr,0,[.tok (e+1)])])else none
  |_=>none
def cQ_inv{e:Nat}{wr:D->D}{F:List D->Option (List D×List Nat)}{ds:List D}{m:Mem}{fr:Id}{d:D}{u:Upd}(h:(cQ e wr F).ex ds m fr=some (d,u)):
  ∃nl t xs rest ys l,ds= .slice nl t xs::rest∧xs.all F7=true∧xs.length<=100000000∧F rest=some (ys,l)∧d=wr (.slice false (l++fr) (xs++ys))∧u=[(l++fr,0,[.tok (e+1)])]:=by
 simp only[cQ]at h;split at h
 ·rename_i nl t xs rest;split at h
  ·rename_i hk;rw[Qr]at h;obtain⟨⟨ys,l⟩,hF,h⟩:=h;simp only[QE]at h;exact⟨nl,t,xs,rest,ys,l,rfl,hk.1,hk.2,hF,h.1.symm,h.2.symm⟩
  ·cases h
 ·cases h
def got_c{e:Nat}{wr:D->D}{F:List D->Option (List D×List Nat)}{m:Mem}{fr:Id}{nl:Bool}{t:Id}{xs rest ys:List D}{l:List Nat}{K:D×Upd->Prop}{g}(ha:xs.all F7=true)(hl:xs.length<=100000000)(hF:F rest=some (ys,l))
  (h:K (wr (.slice false (l++fr) (xs++ys)),[(l++fr,0,[.tok (e+1)])])):Got ((cQ e wr F).ex (.slice nl t xs::rest) m fr) K g:=by
 refine Got.intro ?_ h;simp only[cQ];rw[if_pos ⟨ha,hl⟩,hF];rfl
def bytes_all(a:List UInt8):(AD a).all F7=true:=by
 rw[Qw];intro x hx;obtain⟨c,_,rfl⟩:=QF.1 hx;rfl
def Gd.finc{e:Nat}{fr:Id}{m0 m:Mem}{t0 t:Id}{c:Nat}(h:Gd e fr m0 true t0 m c t)(hfr:∀i o,fr<:+i->m0 i o=none):∀i o x,Upd.app m0 [(t,0,[.tok (e+1)])] i o=some x->m i o=some x:=
 h.fin (emp:=true) (xs:=[]) hfr (by unfold BJ;rfl)
def grown_ex{m:Mem}{fr:Id}{nl:Bool}{t:Id}{xs:List D}{k:Int}(hk:0<=k)(ha:xs.all F7=true)(hl:(xs.length:Int)+k<=140737488355328):grownQ.ex [.slice nl t xs,.int .i64 k] m fr=some (.slice false (0::fr) xs,[(0::fr,0,[.tok 6])]):=by
 simp only[grownQ];exact if_pos ⟨hk,ha,hl⟩
def u64_small{n:Int}(h:0<=n)(h':n<18446744073709551616):IntKind.u64.wrap n=n:=by
 have:IntKind.u64.wrap n=n % 18446744073709551616:=by simp[IntKind.wrap,IntKind.bits,IntKind.signed]
 rw[this];omega
def rowW(d:D):D:= .tup [d,.int .i64 0]
def mQ(n:Nat)(F:List D->List D->Option (D×List D)):Summ where
 rd:=λds _=>match ds with
  | .ptr i 0::_=>Ai i 0 n
  |_=>[]
 ex:=λds m _=>match ds with
  | .ptr i 0::rest=>match Ah m i 0 n with
   |some cs=>(F cs rest).map λy=>(y.1,[(i,0,y.2)])
   |none=>none
  |_=>none
def mQ_loc{n:Nat}{F:List D->List D->Option (D×List D)}(ds:List D)(m m':Mem)(fr:Id)(h:∀l∈(mQ n F).rd ds m,m l.1 l.2=m' l.1 l.2):(mQ n F).ex ds m fr=(mQ n F).ex ds m' fr:=by
 simp only[mQ]at h ⊢;split
 ·rename_i i rest;rw[Bu (m:=m) (m':=m') h]
 ·rfl
def mQ_run{n:Nat}{F:List D->List D->Option (D×List D)}{i:Id}{m:Mem}{rest:List D}{fr:Id}:(mQ n F).ex (.ptr i 0::rest) m fr=(Ah m i 0 n).bind λcs=>(F cs rest).map λy=>(y.1,[(i,0,y.2)]):=by
 simp only[mQ];cases Ah m i 0 n<;>rfl
def mQ_inv{n:Nat}{F:List D->List D->Option (D×List D)}{ds:List D}{m:Mem}{fr:Id}{r:D}{u:Upd}(h:(mQ n F).ex ds m fr=some (r,u)):
  ∃i rest cs cs',ds= .ptr i 0::rest∧Ah m i 0 n=some cs∧F cs rest=some (r,cs')∧u=[(i,0,cs')]:=by
 simp only[mQ]at h;split at h
 ·rename_i i rest;split at h
  ·rename_i cs hcs;rw[Qr]at h;obtain⟨y,hF,h⟩:=h;simp only[QE]at h;obtain⟨rfl,rfl⟩:=h;exact⟨i,rest,cs,y.2,rfl,hcs,hF,rfl⟩
  ·cases h
 ·cases h
section
variable{m m':Mem}{i j:Id}{n o k:Nat}{cs ys:List D}{d:D}{fr:Id}
def Bq(h:Ah m i 0 n=some cs)(hd:cs[k]?=some d):m i k=some d:=by
 obtain⟨h1,h2⟩:=BI h;have hk:k<n:=by rw[←h1];exact(Qs.1 hd).1
 have:=h2 k hk;rw[QC]at this;rw[this,hd]
def rd_aux:∀{ds:List D} {m:Mem} {p:Nat},(∀k d,ds[k]?=some d->m i (p+k)=some d)->Ah m i p ds.length=some ds
 |[],m,p,_=>rfl
 |x::r,m,p,h=>by
  have h0:=h 0 x rfl;rw[Zi]at h0;have h1:=rd_aux (ds:=r) (m:=m) (p:=p+1) (λk d hd=>by
   have:=h (k+1) d (by simpa using hd);rw[show p+(k+1)=p+1+k by omega]at this;exact this)
  simp only[Ah,Qz,h0,h1,QO]
def rd_put(h:Ah m i 0 n=some cs)(hk:o+ys.length<=n):Ah (m.put i o ys) i 0 n=some (cs.take o++ys++cs.drop (o+ys.length)):=by
 obtain⟨h1,h2⟩:=BI h;have hl:(cs.take o++ys++cs.drop (o+ys.length)).length=n:=by simp only[Qx,QD,QU];omega
 have:=rd_aux (i:=i) (m:=m.put i o ys) (p:=0) (ds:=cs.take o++ys++cs.drop (o+ys.length)) (λq d hd=>by
  rw[QC];simp only[Mem.put];have hto:(cs.take o).length=o:=by rw[QD];omega
  by_cases hq:q<o
  ·have hc:¬(True∧o<=q∧q<o+ys.length):=by omega
   first
    |rw[if_neg (by simp;omega)]
    |skip
   rw[Q9,QV (by omega),List.getElem?_take,if_pos hq]at hd;exact Bq h hd
  ·by_cases hq2:q<o+ys.length
   ·rw[if_pos (by simp;omega)];rw[Q9,QJ (by omega),hto,QV (by omega)]at hd;exact hd
   ·rw[if_neg (by simp;omega)];rw[Q9,QJ (by omega),hto,QJ (by omega),List.getElem?_drop]at hd;rw[show o+ys.length+(q-o-ys.length)=q by omega]at hd;exact Bq h hd)
 rw[hl]at this;exact this
def ER(n:Nat)(i:Id)(m m':Mem):Prop:=∀(j:Id)(o:Nat)(x:D),(j≠i∨n<=o)->m j o=some x->m' j o=some x
def ER.refl:ER n i m m:=λ_ _ _ _ h=>h
def ER.own(h:ER n i m m')(ho:o+ys.length<=n):ER n i m (m'.put i o ys):=λj p x hj hx=>by
 have h1:=h j p x hj hx;simp only[Mem.put];split
 ·rename_i hc;exfalso;rcases hj with hj|hj
  ·exact hj (by first|exact hc.1|(simp at hc;exact hc.1))
  ·omega
 ·exact h1
def ER.new(hfr:∀i o,fr<:+i->m i o=none)(l:List Nat)(h:ER n i m m'):ER n i m (m'.put (l++k::fr) o ys):=λj p x hj hx=>by
 have h1:=h j p x hj hx;have hne:j≠l++k::fr:=λe=>by
  rw[e,hfr _ _ ⟨l++[k],by simp⟩]at hx;cases hx
 rw[Mem.put_other hne];exact h1
def ER.new0(hfr:∀i o,fr<:+i->m i o=none)(h:ER n i m m'):ER n i m (m'.put (k::fr) o ys):=ER.new hfr [] h
end
theorem m_ok {P : Program} {S : Summs} {f : FuncId} {N : Nat} {dc : DC} {rs : List RV} (hS : Summs.ok P S) (hf : Fn P f N dc rs) {n : Nat} {F : List D → List D → Option (D × List D)} (hn : 0 < n) (hN : ∀ cs rest y, F cs rest = some y → rest.length + 1 ≤ N)
  (h : ∀ (i : Id) (m : Mem) (fr : Id) (cs rest : List D) (r : D) (cs' : List D), Ah m i 0 n = some cs → F cs rest = some (r, cs') → (∀ j o, fr <:+ j → m j o = none) → (∀ k l, (i = l ++ k :: fr) = False) → (∀ k, (i = k :: fr) = False) →
   dc.wp S fr (DO rs fun d m' => d = r ∧ Ah m' i 0 n = some cs' ∧ ER n i m m') ⟨Bx (.ptr i 0 :: rest), m, 0⟩) : (mQ n F).ok P f := by
 refine opn_ok2 hS hf mQ_loc (fun ds m fr r u hex hfr => ?_)
 obtain ⟨i, rest, cs, cs', rfl, hcs, hF, rfl⟩ := mQ_inv hex
 have hi0 : ∃ x, m i 0 = some x := by
  obtain ⟨h1, h2⟩ := BI hcs
  have := h2 0 hn
  rw [Qd (by omega)] at this
  exact ⟨_, this⟩
 obtain ⟨x0, hx0⟩ := hi0
 have hni : ∀ k l, (i = l ++ k :: fr) = False := fun k l => eq_false (fun e => by
  rw [e, hfr _ _ ⟨l ++ [k], by simp⟩] at hx0
  cases hx0)
 refine ⟨hN _ _ _ hF, ?_⟩
 have hw := h i m fr cs rest r cs' hcs hF hfr hni (fun k => hni k [])
 refine wp_mono' hw (fun e st' he => ?_)
 obtain ⟨he1, d, he2, rfl, hc', ho⟩ := he
 refine ⟨he1, d, he2, rfl, fun j o x hx => ?_⟩
 obtain ⟨h1, h2⟩ := BI hc'
 have hx' : (m.put i 0 cs') j o = some x := hx
 by_cases hj : j = i
 ·subst hj
  by_cases ho' : o < n
  ·have := h2 o ho'
   rw [QC] at this
   rw [this]
   simp only [Mem.put] at hx'
   rw [if_pos (by simp; omega)] at hx'
   simpa using hx'
  ·have hx2 : m j o = some x := by
    simp only [Mem.put] at hx'
    rw [if_neg (by simp; omega)] at hx'
    exact hx'
   exact ho j o x (.inr (by omega)) hx2
 ·rw [Mem.put_other hj] at hx'
  exact ho j o x (.inl hj) hx'
section
variable{α:Type}{mk:α->List D}{ok:α->Prop}{res:α->D}
open Classical in
def FX(mk:α->List D)(ok:α->Prop)(res:α->D):List D->Option D:=λds=>if h:∃a,ok a∧mk a=ds then some (res (Classical.choose h))else none
def BB(inj:∀a b,mk a=mk b->a=b){a:α}(ha:ok a):FX mk ok res (mk a)=some (res a):=by
 have h:∃b,ok b∧mk b=mk a:=⟨a,ha,rfl⟩;unfold FX;rw[dif_pos h,inj _ _ (Classical.choose_spec h).2]
def Gn{ds:List D}{r:D}(h:FX mk ok res ds=some r):∃a,ok a∧mk a=ds∧res a=r:=by
 unfold FX at h;split at h
 ·rename_i hx;simp only[Qa]at h;exact⟨_,(Classical.choose_spec hx).1,(Classical.choose_spec hx).2,h⟩
 ·cases h
def BM{P:Program}{S:Summs}{f:FuncId}{N:Nat}{dc:DC}{rs:List RV}(hS:Summs.ok P S)(hf:Fn P f N dc rs)(hN:∀a,(mk a).length<=N)
  (hF:∀a,ok a->dc.wp S [] (DO rs λd _=>d.unR=res a∧(res a).calmR=true) ⟨Bx (mk a),λ_ _=>none,0⟩):(Ac (FX mk ok res)).ok P f:=by
 refine Ay hS hf (λds r h=>?_) (λds r h=>?_)
 ·obtain⟨a,_,rfl,_⟩:=Gn h;exact hN a
 ·obtain⟨a,ha,rfl,rfl⟩:=Gn h;exact hF a ha
end
def mkJ(p:List (List UInt8)×List UInt8):List D:=[.slice false [] (p.1.map .str),.str p.2]
def mkJ_inj(x y:List (List UInt8)×List UInt8)(e:mkJ x=mkJ y):x=y:=by
 simp only[mkJ,Qi,D.slice.injEq,D.str.injEq,true_and,and_true]at e;exact Prod.ext ((List.map_inj_right (λa b h=>by simpa using h)).1 e.1) e.2
def flatS:∀l:List (List UInt8),flat (l.map D.str)=l.map D.str
 |[]=>rfl
 |x::r=>by
  have ih:=flatS r;simp only[Ze,flat,ih];rfl
def joinF:List D->Option D:=FX mkJ (λp=>p.1≠[]∧p.1.length<=1000∧Cp p.1<=1000000∧p.2.length<=1000∧(Lib.join p.1 p.2).length<=10000000) (λp=> .str (Lib.join p.1 p.2))
def joinF_ok {P:Program} {ρ:Go.Shelf.Ren} (L:Go.Proofs.Lays.n156 P ρ) (X:Go.Proofs.Builder.Extra P ρ) (ent:∃fn,P.funcs[ρ.f 156]?=some fn∧fn.body.isSome=true∧(fn.name== "runtime.NumGoroutine")=false):(Ac joinF).ok P (ρ.f 156):=by
 refine⟨ent,λds m m' fr _=>rfl,?_⟩;intro B w0 w m g fr ds vs r u hi hfresh hl hrep hex;simp only[Ac]at hex;split at hex
 ·rename_i hcalm;rw[Qr]at hex;obtain⟨r',hr,hex⟩:=hex;simp only[QE]at hex;obtain⟨rfl,rfl⟩:=hex;obtain⟨⟨l,s⟩,⟨h1,h2,h3,h4,h5⟩,hmk,rfl⟩:=Gn hr;simp only at h1 h2 h3 h4 h5;have hrep0:∀(j:Nat) d v,(mkJ (l,s))[j]?=some d->vs[j]?=some v->Rep w g d v:=by
   intro j d v hd hv;rw[hmk,QW,Qr]at hd;obtain⟨d',hd',rfl⟩:=hd;exact(hrep j d' v hd' hv).un
  have hlen:ds.length=2:=by
   have:=congrArg List.length hmk;simpa[mkJ]using this.symm
  match vs,hl.trans hlen with
  |[v,v1],_=>
   have r0:=hrep0 0 _ v rfl rfl;have r1:=hrep0 1 _ v1 rfl rfl;rw[r1.str_inv];obtain⟨ad,n,c,sz,ws,rfl,hn,hnc,hsz,hwl,hrp,hcl,_⟩:=r0.slice_list;have hn':n=l.length:=by simpa using hn
   subst hn';have hsz1:sz=1:=by
    cases l with
    |nil=>exact absurd rfl h1
    |cons x r=>exact(hsz (.str x) (by simp)).symm
   subst hsz1;have hflat:=flatS l;rw[hflat]at hrp;have hcell:∀(j:Nat) z,l[j]?=some z->w.cell? (ad.add j)=some (.string ⟨z.toArray⟩):=by
    intro j z hz;have hj:j<l.length:=(Qs.1 hz).1;have hjw:j<ws.length:=by rw[hwl];omega
    have hd:(l.map D.str)[j]?=some (.str z):=by rw[QW,hz];rfl
    have:=hrp.2.2 j (.str z) ws[j] hd (Qd hjw);rw[hcl j ws[j] (Qd hjw),this.str_inv]
   obtain⟨b,off,spot⟩:=ad;have hpos:0<l.length:=List.length_pos_iff.2 h1;have hc0:=hcell 0 _ (Qd hpos);have hspot:spot=none:=by simpa[Addr.add]using World.cell?_spot hc0
   subst hspot;have hblt:b<w.heap.size:=by simpa[Addr.add]using World.block_lt_of_cell? _ _ hc0
   have hmap:(l.map λx=>(⟨x.toArray⟩:ByteArray)).map (·.data.toList)=l:=by simp[QQ,Function.comp_def]
   have hj:(⟨s.toArray⟩:ByteArray).data.toList=s:=rfl;have:=Go.Proofs.Any.strings_Join L X b off c (l.map λx=>(⟨x.toArray⟩:ByteArray)) ⟨s.toArray⟩ w (λj x hx=>by
    rw[QW,Qr]at hx;obtain⟨z,hz,rfl⟩:=hx;have:=hcell j z hz;rw[Fj]at this;exact this) hblt (by simp;omega) (by simp;omega) (by rw[hmap,hj];omega)
   rw[hmap,hj,Qu]at this;refine this.mono ?_;rintro ev w' ⟨rfl,hb⟩;exact⟨_,g.over w w',rfl,hi.over hb,Ext.over hi.gz hb,.str _,λi hf _=>hf⟩
 ·cases hex
section
variable{α:Type}{mk:α->List D×List D}{ok:α->Prop}{res:α->D×List D}
end
section
variable{α:Type}{mk:α->List D×List D}{ok:α->Prop}{res:α->D×Id×(Id->List D)}
end
def lp_det{R:St->Ex->St->Prop}(hR:∀st e1 s1 e2 s2,R st e1 s1->R st e2 s2->e1=e2∧s1=s2):∀{n1 st e1 s1},Lp R n1 st e1 s1->∀{n2 e2 s2},Lp R n2 st e2 s2->e1=e2∧s1=s2:=by
 intro n1 st e1 s1 h1;induction h1 with
 |stop st e st' h hne=>
  intro n2 e2 s2 h2;cases h2 with
  |stop _ _ _ h' _=>exact hR _ _ _ _ _ h h'
  |more n _ st1 _ _ h' _=>exact absurd (hR _ _ _ _ _ h h').1 hne
 |more n st st1 e st' h hl ih=>
  intro n2 e2 s2 h2;cases h2 with
  |stop _ _ _ h' hne=>exact absurd (hR _ _ _ _ _ h h').1.symm hne
  |more n' _ st2 _ _ h' hl'=>
   have:=(hR _ _ _ _ _ h h').2;subst this;exact ih hl'
def ev_det{S:Summs}{ns:Id}:∀{dc:DC} {st:St} {e1:Ex} {s1:St} {e2:Ex} {s2:St},Ev S ns dc st e1 s1->Ev S ns dc st e2 s2->e1=e2∧s1=s2:=by
 intro dc;induction dc with
 |skip=>rintro st e1 s1 e2 s2 ⟨rfl,rfl⟩ ⟨rfl,rfl⟩;exact⟨rfl,rfl⟩
 |ret=>rintro st e1 s1 e2 s2 ⟨rfl,rfl⟩ ⟨rfl,rfl⟩;exact⟨rfl,rfl⟩
 |exit i=>rintro st e1 s1 e2 s2 ⟨rfl,rfl⟩ ⟨rfl,rfl⟩;exact⟨rfl,rfl⟩
 |row ops=>
  rintro st e1 ⟨a1,b1,c1⟩ e2 ⟨a2,b2,c2⟩ ⟨rfl,h1,h1'⟩ ⟨rfl,h2,h2'⟩;rw[h1]at h2;simp only[Qa,QE]at h2;simp only at h1' h2';exact⟨rfl,by rw[h2.1,h2.2,h1',h2']⟩
 |drawn ops ps=>
  rintro st e1 ⟨a1,b1,c1⟩ e2 ⟨a2,b2,c2⟩ ⟨rfl,⟨f1,h1,_⟩,h1'⟩ ⟨rfl,⟨f2,h2,_⟩,h2'⟩;rw[h1]at h2;simp only[Qa,QE]at h2;simp only at h1' h2';exact⟨rfl,by rw[h2.1,h2.2.1,h1',h2']⟩
 |seq a b iha ihb=>
  rintro st e1 s1 e2 s2 ⟨x1,y1,h1,k1⟩ ⟨x2,y2,h2,k2⟩;obtain⟨rfl,rfl⟩:=iha h1 h2;rcases k1 with ⟨n1,k1⟩|⟨n1,rfl,rfl⟩<;>rcases k2 with ⟨n2,k2⟩|⟨n2,rfl,rfl⟩
  ·exact ihb k1 k2
  ·exact absurd n1 n2
  ·exact absurd n2 n1
  ·exact⟨rfl,rfl⟩
 |cond c a b iha ihb=>
  rintro st e1 s1 e2 s2 h1 h2;rcases h1 with ⟨t1,h1⟩|⟨t1,h1⟩<;>rcases h2 with ⟨t2,h2⟩|⟨t2,h2⟩
  ·exact iha h1 h2
  ·rw[t1]at t2;simp at t2
  ·rw[t1]at t2;simp at t2
  ·exact ihb h1 h2
 |block i c ih=>
  rintro st e1 s1 e2 s2 ⟨x1,h1,k1⟩ ⟨x2,h2,k2⟩;obtain⟨rfl,rfl⟩:=ih h1 h2;rcases k1 with ⟨n1,rfl⟩|⟨n1,rfl⟩<;>rcases k2 with ⟨n2,rfl⟩|⟨n2,rfl⟩
  ·exact⟨rfl,rfl⟩
  ·exact absurd n1 n2
  ·exact absurd n2 n1
  ·exact⟨rfl,rfl⟩
 |loop c ih=>
  rintro st e1 s1 e2 s2 ⟨n1,h1⟩ ⟨n2,h2⟩;exact lp_det (R:=Ev S ns c) (λst e1 s1 e2 s2 h h'=>@ih st e1 s1 e2 s2 h h') h1 h2
def ends_det{S:Summs}{ns:Id}{dc:DC}{rs:List RV}{R1 R2:D->Mem->Prop}{st:St}(h1:dc.wp S ns (DO rs R1) st)(h2:dc.wp S ns (DO rs R2) st):∃d m,R1 d m∧R2 d m:=by
 obtain⟨e1,s1,v1,_,d1,q1,r1⟩:=h1;obtain⟨e2,s2,v2,_,d2,q2,r2⟩:=h2;obtain⟨rfl,rfl⟩:=ev_det v1 v2;rw[q1]at q2;simp only[Qa]at q2;subst q2;exact⟨_,_,r1,r2⟩
def runs1(S:Summs)(dc:DC)(rs:List RV)(N:Nat)(ds:List D)(r:D):Prop:=ds.length<=N∧dc.wp S [] (DO rs λd _=>d.unR=r∧r.calmR=true) ⟨Bx ds,λ_ _=>none,0⟩
open Classical in
def RF(S:Summs)(dc:DC)(rs:List RV)(N:Nat):List D->Option D:=λds=>if h:∃r,runs1 S dc rs N ds r then some (Classical.choose h)else none
def rf_get{S:Summs}{dc:DC}{rs:List RV}{N:Nat}{ds:List D}{r:D}(h:RF S dc rs N ds=some r):runs1 S dc rs N ds r:=by
 unfold RF at h;split at h
 ·rename_i hx;simp only[Qa]at h;subst h;exact Classical.choose_spec hx
 ·cases h
def AE{S:Summs}{dc:DC}{rs:List RV}{N:Nat}{ds:List D}{r:D}(hN:ds.length<=N)(h:dc.wp S [] (DO rs λd _=>d.unR=r∧r.calmR=true) ⟨Bx ds,λ_ _=>none,0⟩):RF S dc rs N ds=some r:=by
 have hx:∃r,runs1 S dc rs N ds r:=⟨r,hN,h⟩;unfold RF;rw[dif_pos hx];obtain⟨d,_,h1,h2⟩:=ends_det (Classical.choose_spec hx).2 h;rw[←h1.1,h2.1]
def AH{P:Program}{S:Summs}{f:FuncId}{N:Nat}{dc:DC}{rs:List RV}(hf:Fn P f N dc rs)(hS:Summs.ok P S):(Ac (RF S dc rs N)).ok P f:=
 Ay hS hf (λds r h=>(rf_get h).1) (λds r h=>(rf_get h).2)
def rdC_same'{m:Mem}{i:Id}{ds:List D}{n:Nat}(h:ds.length=n):Ah (m.put i 0 ds) i 0 n=some ds:=by
 subst h;exact rd_aux (λk d hd=>by rw[Mem.put_same (Qs.1 hd).1,hd])
theorem Bk {S : Summs} {ns : Id} {b : DC} {Q : Ex → St → Prop} {n : Nat} {I : Nat → St → Prop} (hs : ∀ j, j < n → (∀ st g, I (j + 1) st → A8 S ns b Q st g) → ∀ st g, I j st → A8 S ns b Q st g) (he : ∀ st g, I n st → A8 S ns b Q st g) : ∀ j, j ≤ n → ∀ st g, I j st → A8 S ns b Q st g := by
  have key : ∀ f j, n = j + f → ∀ st g, I j st → A8 S ns b Q st g := by
    intro f
    induction f with
    | zero => intro j hj st g hI; have : j = n := by omega
              subst this; exact he st g hI
    | succ f ih => intro j hj st g hI; exact hs j (by omega) (fun st g h => ih (j + 1) (by omega) st g h) st g hI
  exact fun j hj => key (n - j) j (by omega)
def runsM(S:Summs)(dc:DC)(rs:List RV)(N n:Nat)(cs rest:List D)(y:D×List D):Prop:=cs.length=n∧rest.length+1<=N∧∀(i:Id)(m:Mem)(fr:Id),Ah m i 0 n=some cs->(∀j o,fr<:+j->m j o=none)->(∀k l,(i=l++k::fr)=False)->(∀k,(i=k::fr)=False)->
 dc.wp S fr (DO rs λd m'=>d=y.1∧Ah m' i 0 n=some y.2∧ER n i m m') ⟨Bx (.ptr i 0::rest),m,0⟩
def one_mem(cs:List D)(n:Nat)(hl:cs.length=n)(hn:0<n):∃m:Mem,Ah m [0] 0 n=some cs∧(∀j o,[1]<:+j->m j o=none)∧(∀k l,(([0]:Id)=l++k::[1])=False)∧(∀k,(([0]:Id)=k::[1])=False):=by
 refine⟨Mem.put (λ_ _=>none) [0] 0 cs,rdC_same' hl,λj o hj=>?_,λk l=>eq_false (λe=>?_),λk=>eq_false (λe=>by simp at e)⟩
 ·rw[Mem.put_other];rintro rfl;obtain⟨t,ht⟩:=hj;have:=congrArg List.getLast? ht;simp at this
 ·have:=congrArg List.getLast? e;simp at this
open Classical in
def RM(S:Summs)(dc:DC)(rs:List RV)(N n:Nat):List D->List D->Option (D×List D):=λcs rest=>if h:∃y,runsM S dc rs N n cs rest y then some (Classical.choose h)else none
def rm_get{S:Summs}{dc:DC}{rs:List RV}{N n:Nat}{cs rest:List D}{y:D×List D}(h:RM S dc rs N n cs rest=some y):runsM S dc rs N n cs rest y:=by
 unfold RM at h;split at h
 ·rename_i hx;simp only[Qa]at h;subst h;exact Classical.choose_spec hx
 ·cases h
def rm_eq{S:Summs}{dc:DC}{rs:List RV}{N n:Nat}{cs rest:List D}{y:D×List D}(hn:0<n)(hl:cs.length=n)(hN:rest.length+1<=N) (h:∀(i:Id)(m:Mem)(fr:Id),Ah m i 0 n=some cs->(∀j o,fr<:+j->m j o=none)->(∀k l,(i=l++k::fr)=False)->(∀k,(i=k::fr)=False)->
  dc.wp S fr (DO rs λd m'=>d=y.1∧Ah m' i 0 n=some y.2∧ER n i m m') ⟨Bx (.ptr i 0::rest),m,0⟩):RM S dc rs N n cs rest=some y:=by
 have hx:∃y,runsM S dc rs N n cs rest y:=⟨y,hl,hN,h⟩;unfold RM;rw[dif_pos hx];obtain⟨m,m1,m2,m3,m4⟩:=one_mem cs n hl hn;obtain⟨d,m',h1,h2⟩:=ends_det ((Classical.choose_spec hx).2.2 [0] m [1] m1 m2 m3 m4) (h [0] m [1] m1 m2 m3 m4);have e1:=h1.1.symm.trans h2.1;have e2:=h1.2.1.symm.trans h2.2.1;simp only[Qa]at e2;rw[show Classical.choose hx=y from Prod.ext e1 e2]
def rm_ok{P:Program}{S:Summs}{f:FuncId}{N n:Nat}{dc:DC}{rs:List RV}(hf:Fn P f N dc rs)(hn:0<n)(hS:Summs.ok P S):(mQ n (RM S dc rs N n)).ok P f:=by
 refine m_ok hS hf hn (λcs rest y hy=>(rm_get hy).2.1) (λi m fr cs rest r cs' hcs hF hfr h1 h2=>?_);exact(rm_get hF).2.2 i m fr hcs hfr h1 h2
end Go.Vd
namespace Go.Vd
open Go.Proofs Go.RowKit
def n_tk1{x:D}{l:List D}{n:Nat}:(x::l).take (n+1)=x::l.take n:=rfl
def n_tk0{l:List D}:l.take 0=[]:=rfl
def n_dr0{l:List D}:l.drop 0=l:=rfl
def n_dr1{x:D}{l:List D}{n:Nat}:(x::l).drop (n+1)=l.drop n:=rfl
def n_ob{x:D}{f:D->Option (List D)}:(some x).bind f=f x:=rfl
def n_obn{f:D->Option (List D)}:(none:Option D).bind f=none:=rfl
def n_om{x:List D}{f:List D->List D}:(some x).map f=some (f x):=rfl
def n_om2{x:List D}{f:List D->D}:(some x).map f=some (f x):=rfl
def n_om3{x:D}{f:D->D}:(some x).map f=some (f x):=rfl
def n_om4{x:D}{f:D->List D}:(some x).map f=some (f x):=rfl
def n_is{x:List D}:(some x).isSome=true:=rfl
def n_isd{x:D}:(some x).isSome=true:=rfl
def n_ci{a b:Nat}{l l':List Nat}:(a::l=b::l')=(a=b∧l=l'):=by simp
def n_cin{a:Nat}{l:List Nat}:(a::l=[])=False:=by simp
def n_bt:(true=false)=False:=by simp
def n_bf:(false=true)=False:=by simp
def n_lda{m:Mem}{n:Nat}{i:Id}{o:Nat}:ldD m (some n) (.ptr i o)=(Ah m i o n).map .agg:=rfl
def n_ldl{m:Mem}{i:Id}{o:Nat}:ldD m none (.ptr i o)=m i o:=rfl
def resW_tc{s:Nat->D}{m:Mem}{k:Option Nat}{a b:Nat}:Cn [.t b,.cell k a] s m=(ldD m k (s a)).map λd=> .tup [s b,d]:=by
 simp only[Cn,Fx,RV.of];cases ldD m k (s a)<;>rfl
def resW_ctt{s:Nat->D}{m:Mem}{k:Option Nat}{a b c:Nat}:Cn [.cell k a,.t b,.t c] s m=(ldD m k (s a)).map λd=> .tup [d,s b,s c]:=by
 simp only[Cn,Fx,RV.of];cases ldD m k (s a)<;>rfl
def res_cell_ttt{s:Nat->D}{m:Mem}{k:Option Nat}{a b c e:Nat}:Cn [.cell k a,.t b,.t c,.t e] s m=(ldD m k (s a)).map λd=> .tup [d,s b,s c,s e]:=by
 simp only[Cn,Fx,RV.of];cases ldD m k (s a)<;>rfl
def res_cell_t'{s:Nat->D}{m:Mem}{k:Option Nat}{a b:Nat}:Cn [.cell k a,.t b] s m=(ldD m k (s a)).map λd=> .tup [d,s b]:=by
 simp only[Cn,Fx,RV.of];cases ldD m k (s a)<;>rfl
def n_fin{cs:List D}:BK cs []=some cs:=rfl
def n_fi{cs:List D}{o n:Nat}{d:D}{r:List (Nat×Nat×D)}:BK cs ((o,n,d)::r)=if d.data=true∧d.cells.length=n∧o+n<=cs.length then BK (C5 cs o d.cells) r else none:=rfl
def n_pa{cs ds:List D}{o:Nat}:C5 cs o ds=cs.take o++ds++cs.drop (o+ds.length):=rfl
def n_neq{nl:Bool}{t u:Id}{xs:List D}:nilEq 0 (.slice nl t xs) (.slice true u [])=some nl:=by cases nl<;>rfl
def n_bn1:(true !=false)=true:=rfl
def n_bn2:(false !=false)=false:=rfl
def n_bn3:(true !=true)=false:=rfl
def n_bn4:(false !=true)=true:=rfl
def n_grt{m:Mem}{e:Nat}{f t:Id}{xs:List D}:Upd.app m (Bg e f (.slice true t xs))=m.put f 0 [.tok (e+1)]:=rfl
def n_grf{m:Mem}{e:Nat}{f t:Id}{xs:List D}:Upd.app m (Bg e f (.slice false t xs))=(m.put t 0 [.tok 0]).put f 0 [.tok (e+1)]:=rfl
def n_se0{x y:D}{l:List D}:(x::l).set 0 y=y::l:=rfl
def n_se1{x y:D}{l:List D}{n:Nat}:(x::l).set (n+1) y=x::l.set n y:=rfl
set_option linter.defProp false
def go5:=Qo @Af <| Qo @Ap <| Qo @Aq <| Qo @Bf <| Qo @res_cell_t' <| Qo @resW_tc <| Qo @resW_ctt <| Qo @res_cell_ttt <| Qo @n_lda <| Qo @n_ldl <| Qo @n_tk1 <| Qo @n_tk0 <| Qo @n_dr0 <| Qo @n_dr1 <| Qo @n_ob <| Qo @n_obn <| Qo @n_om <| Qo @n_om2 <| Qo @n_om3 <| Qo @n_om4 <| Qo @n_is <| Qo @n_isd <| Qo @n_ci <| Qo @n_cin <| Qo @n_bt <| Qo @n_bf <| Qo @Ql <| Qo @Qq <| Qo @QC <| Qo @true_and <| Qo @and_true <| Qo @false_and <| Qo @and_false <| Qo @and_self <| Qo @Qm <| Qo @QP <| Qo @Qn <| Qo @Nat.add_eq_right <| Qo @Bool.true_or <| Qo @Bool.or_true <| Qo @Bool.false_or <| Qo @Bool.or_false <| Qo @Bool.not_true <| Qo @Bool.not_false <| Qo @not_true_eq_false <| Qo @not_false_eq_true <| Qo @n_fin <| Qo @n_fi <| Qo @n_pa <| Qo @n_se0 <| Qo @n_se1 <| Qo @n_neq <| Qo @n_grt <| Qo @n_grf <| Qo n_bn1 <| Qo n_bn2 <| Qo n_bn3 n_bn4
abbrev Rw:=Int×Bool×Bool
def rwD(r:Rw):D:= .agg [.int .i64 r.1,.bool r.2.1,.bool r.2.2]
def A6(l:List Rw):List D:=l.map rwD
def AU(l:List Rw):(A6 l).length=l.length:=Qu ..
def EW{l:List Rw}{j:Nat}(h:j<l.length):(A6 l)[j]?=some (.agg [.int .i64 l[j].1,.bool l[j].2.1,.bool l[j].2.2]):=by simp[A6,rwD,Qd h]
structure Sc where
 mx:Int
 cas:Bool
 la:Int
 nl:Bool
 rs:List Rw
def scC(s:Sc):List D:=[.int .i64 s.mx,.bool s.cas,.int .i64 s.la,.slice s.nl [] (A6 s.rs)]
def risB:List Rw->Int->Bool
 |[],_=>true
 |x::r,a=>decide (a<x.1)&&risB r x.1
def B1(s:Sc)(q:Int):Int:=if s.mx=0 then q else s.mx
def newE(l:List Rw):Int:=match l.getLast? with
 |some x=>x.1
 |none=>0
def Dx(s:Sc)(q:Int):Bool:=!decide (1<=q∧q<=6)||(!decide (0<=s.mx∧s.mx<=6)||(!decide (0<=s.la∧s.la<=30)||(decide (B1 s q<s.rs.length)||(!risB s.rs 0||!decide (newE s.rs=s.la)))))
def secE(s:Sc)(q:Int):Int:=if Dx s q=true then 2 else 0
def S296:Summs:=AC []
def R296:List D->Option D:=RF S296 dc296 [.t 2] 5
def ko296:(Ac R296).ok Qb 296:=AH fn296 Ad
def R296_eq(r:Rw):R296 [.agg [.int .i64 r.1,.bool r.2.1,.bool r.2.2]]=some (.int .i64 r.1):=by
 refine AE (QM rfl) ?_;unfold dc296;simp only[↓go1,gB3,go5,simprocAttr]
 all_goals first|rfl|exact⟨rfl,rfl⟩|simp[*]
def S335:Summs:=AC []
def R335:List D->Option D:=RF S335 dc335 [.cell (some 2) 0] 2
def ko335:(Ac R335).ok Qb 335:=AH fn335 Ad
def R335_eq:R335 []=some (.agg [.int .i64 6,.bool false]):=by
 refine AE (QM rfl) ?_;unfold dc335;simp only[↓go1,gB3,go5,simprocAttr]
 all_goals first|rfl|exact⟨rfl,rfl⟩|simp[*]
def S241:Summs:=AC []
def R241:List D->Option D:=RF S241 dc241 [.cell (some 2) 0] 2
def ko241:(Ac R241).ok Qb 241:=AH fn241 Ad
def R241_eq:R241 []=some (.agg [.int .i64 6,.bool false]):=by
 refine AE (QM rfl) ?_;unfold dc241;simp only[↓go1,gB3,go5,simprocAttr]
 all_goals first|rfl|exact⟨rfl,rfl⟩|simp[*]
def S294:Summs:=AC []
def R294:List D->Option D:=RF S294 dc294 [.t 4] 12
def ko294:(Ac R294).ok Qb 294:=AH fn294 Ad
def R294_eq(s:Sc)(q:Int)(b:Bool):R294 [.agg (scC s),.agg [.int .i64 q,.bool b]]=some (.int .i64 (B1 s q)):=by
 refine AE (QM rfl) ?_;unfold dc294;unfold B1 scC;by_cases h:s.mx=0
 ·simp only[↓go1,gB3,go5,simprocAttr,h]
  all_goals first|rfl|exact⟨rfl,rfl⟩|simp[*]
 ·simp only[↓go1,gB3,go5,simprocAttr,h]
  all_goals first|rfl|exact⟨rfl,rfl⟩|simp[*]
def S295:Summs:=AC [(296,Ac R296)]
def R295:List D->Option D:=RF S295 dc295 [.t 4] 23
def ko295:(Ac R295).ok Qb 295:=AH fn295 (Ab ko296 Ad)
def R295_eq{nl:Bool}{l:List Rw}(hl:l.length<=1000):R295 [.slice nl [] (A6 l),.fn 296 []]=some (.bool (risB l 0)):=by
 refine AE (QM rfl) ?_;unfold dc295;simp only[↓go1,go2,simprocAttr,AU];refine Bk (n:=l.length) (I:=λj st=>st.s 8= .slice nl [] (A6 l)∧st.s 9= .int .i64 l.length∧st.s 10= .int .i64 (j:Int)∧st.s 1= .fn 296 []∧∃a,st.s 5= .int .i64 a∧risB (l.drop j) a=risB l 0) (λj hj ih st g hI=>?_) (λst g hI=>?_) 0 (Ql _) _ _ ⟨rfl,rfl,rfl,rfl,0,rfl,rfl⟩
 ·obtain⟨st_s,st_m,st_c⟩:=st;obtain⟨h8,h9,h10,h1,a,h5,ha⟩:=hI;simp only at h8 h9 h10 h1 h5;refine Ae dc295l0.eq_1 ?_;have hlt:((j:Int)<l.length):=by omega
  have hj0:=nJ (j:=j);have hw:=wJ (j:=j) (by omega);have hat:=EW hj;have hd:l.drop j=l[j]::l.drop (j+1):=Zl hj;have h296:=R296_eq l[j];rw[hd]at ha;generalize l[j]=x at hat ha h296 hd;by_cases hx:x.1<=a
  ·have e:risB l 0=false:=by rw[←ha];simp[risB];omega
   simp only[↓go1,gB3,go5,simprocAttr,h8,h9,h10,h1,h5,hlt,hj0,Qe,hat,Al S295 296,h296,hx];rw[e]
   all_goals first|rfl|exact⟨rfl,rfl⟩|simp[*]
  ·have e:risB (l.drop (j+1)) x.1=risB l 0:=by rw[←ha];simp only[risB];rw[decide_eq_true (by omega)];rfl
   simp only[↓go1,gB3,go5,simprocAttr,h8,h9,h10,h1,h5,hlt,hj0,Qe,hat,Al S295 296,h296,hx,hw];exact ih _ _ ⟨h8,h9,rfl,h1,_,rfl,e⟩
 ·obtain⟨h8,h9,h10,h1,a,h5,ha⟩:=hI;refine Ae dc295l0.eq_1 ?_;have e:risB l 0=true:=by rw[←ha];simp[risB]
  simp only[↓go1,gB3,go5,simprocAttr,h9,h10,Zo];rw[e]
  all_goals first|rfl|exact⟨rfl,rfl⟩|simp[*]
def S191:Summs:=AC [(246,Ac F246),(294,Ac R294),(295,Ac R295)]
def Gk:List D->Option D:=RF S191 dc191 [.t 4] 52
def ko191:(Ac Gk).ok Qb 191:=AH fn191 (Ab ok246 (Ab ko294 (Ab ko295 Ad)))
def Gj(s:Sc)(q:Int)(b:Bool)(hl:s.rs.length<=1000):Gk [.agg (scC s),.agg [.int .i64 q,.bool b]]=some (.int .i64 (secE s q)):=by
 refine AE (QM rfl) ?_;have s294:S191 294=some (Ac R294):=rfl;have s295:S191 295=some (Ac R295):=rfl;unfold dc191;have h294:=R294_eq s q b;have h295:=R295_eq (nl:=s.nl) (l:=s.rs) hl;have h246:∀x a b:Int,F246 [.int .i64 x,.int .i64 a,.int .i64 b]=some (.bool (decide (a<=x∧x<=b))):=λ_ _ _=>rfl
 have hn:IntKind.i64.wrap ((s.rs.length:Int)-1)=(s.rs.length:Int)-1:=w64 (by omega) (by omega);have hlast:0<s.rs.length->∃x:Rw,newE s.rs=x.1∧(A6 s.rs)[((s.rs.length:Int)-1).toNat]?=some (.agg [.int .i64 x.1,.bool x.2.1,.bool x.2.2]):=λh=>by
  have hk:((s.rs.length:Int)-1).toNat=s.rs.length-1:=by omega
  refine⟨s.rs[s.rs.length-1],?_,by rw[hk];exact EW (by omega)⟩;unfold newE;rw[List.getLast?_eq_getElem?,Qd (by omega)]
 have hnone:¬0<s.rs.length->newE s.rs=0:=λh=>by
  have:s.rs=[]:=List.length_eq_zero_iff.1 (by omega);rw[this];rfl
 unfold secE Dx;unfold scC at h294 ⊢;generalize B1 s q=kp at h294;generalize risB s.rs 0=rb at h295;generalize newE s.rs=nw at hlast hnone;by_cases c1:1<=q∧q<=6
 case neg=>
  simp only[↓go1,gB3,go5,simprocAttr,Al S191 246,h246,c1]
  all_goals first|rfl|exact⟨rfl,rfl⟩|simp[*]
 by_cases c2:0<=s.mx∧s.mx<=6
 case neg=>
  simp only[↓go1,gB3,go5,simprocAttr,Al S191 246,h246,c1,c2]
  all_goals first|rfl|exact⟨rfl,rfl⟩|simp[*]
 by_cases c3:0<=s.la∧s.la<=30
 case neg=>
  simp only[↓go1,gB3,go5,simprocAttr,Al S191 246,h246,c1,c2,c3]
  all_goals first|rfl|exact⟨rfl,rfl⟩|simp[*]
 by_cases c4:kp<s.rs.length
 case pos=>
  simp only[↓go1,gB3,go5,simprocAttr,Al S191 246,h246,Aa s294,h294,c1,c2,c3,c4,AU]
  (refine Ao.intro (Aj ?_) ?_;first|rfl|simp[A5,AM,rds,Ai,Ac])
  simp only[↓go1,gB3,go5,simprocAttr,c4]
  all_goals first|rfl|exact⟨rfl,rfl⟩|simp[*]
 cases rb with
 |false=>
  simp only[↓go1,gB3,go5,simprocAttr,Al S191 246,h246,Aa s294,h294,Aa s295,h295,c1,c2,c3,c4,AU]
  (refine Ao.intro (Aj ?_) ?_;first|rfl|simp[A5,AM,rds,Ai,Ac])
  simp only[↓go1,gB3,go5,simprocAttr,c4]
  all_goals first|rfl|exact⟨rfl,rfl⟩|simp[*]
 |true=>
  by_cases c5:0<s.rs.length
  ·obtain⟨x,e1,e2⟩:=hlast c5;have c5':(0:Int)<(s.rs.length:Int):=by omega
   have c5'':(0:Int)<=(s.rs.length:Int)-1:=by omega
   subst e1;by_cases c6:x.1=s.la
   ·simp only[↓go1,gB3,go5,simprocAttr,Al S191 246,h246,Aa s294,h294,Aa s295,h295,c1,c2,c3,c4,c6,AU]
    (refine Ao.intro (Aj ?_) ?_;first|rfl|simp[A5,AM,rds,Ai,Ac])
    simp only[↓go1,gB3,go5,simprocAttr,c1,c2,c3,c4,c5',c5'',hn,e2,c6,AU]
    all_goals first|rfl|exact⟨rfl,rfl⟩|simp[*]
   ·simp only[↓go1,gB3,go5,simprocAttr,Al S191 246,h246,Aa s294,h294,Aa s295,h295,c1,c2,c3,c4,c6,AU]
    (refine Ao.intro (Aj ?_) ?_;first|rfl|simp[A5,AM,rds,Ai,Ac])
    simp only[↓go1,gB3,go5,simprocAttr,c1,c2,c3,c4,c5',c5'',hn,e2,c6,AU]
    all_goals first|rfl|exact⟨rfl,rfl⟩|simp[*]
  ·have e1:=hnone c5;have c5':¬(0:Int)<(s.rs.length:Int):=by omega
   subst e1;by_cases c6:(0:Int)=s.la
   ·have c6':((0:Int)=s.la)=True:=eq_true c6;simp only[↓go1,gB3,go5,simprocAttr,Al S191 246,h246,Aa s294,h294,Aa s295,h295,c1,c2,c3,c4,c6',AU]
    (refine Ao.intro (Aj ?_) ?_;first|rfl|simp[A5,AM,rds,Ai,Ac])
    simp only[↓go1,gB3,go5,simprocAttr,c1,c2,c3,c4,c5',c6',AU]
    all_goals first|rfl|exact⟨rfl,rfl⟩|simp[*]
   ·have c6':((0:Int)=s.la)=False:=eq_false c6;simp only[↓go1,gB3,go5,simprocAttr,Al S191 246,h246,Aa s294,h294,Aa s295,h295,c1,c2,c3,c4,c6',AU]
    (refine Ao.intro (Aj ?_) ?_;first|rfl|simp[A5,AM,rds,Ai,Ac])
    simp only[↓go1,gB3,go5,simprocAttr,c1,c2,c3,c4,c5',c6',AU]
    all_goals first|rfl|exact⟨rfl,rfl⟩|simp[*]
end Go.Vd
namespace Go.Vd
open Go.Proofs
def dc48:DC:=(sr [al 0 [zn]] (sr [cc 1 112 [],bl 2 97 3 1,oo 3 (.build [zn] [(0,1,(.t 2))]),st 1 0 3] .ret))
def fn48:Fn Qb 48 4 dc48 [.cell (some 1) 0]:=Am func48
def dc112:DC:=(sr [al 0 [zs,zs,zn]] (sr [oo 1 (.build [zs,zu] [(1,1,(.c (.int .u8 63)))]),bl 2 209 2 1,oo 3 (.build [zs,zs,zn] [(0,1,(.c (.str [114,111,111,116]))),(2,1,(.t 2))]),st 3 0 3] .ret))
def fn112:Fn Qb 112 4 dc112 [.cell (some 3) 0]:=Am func112
def dc113:DC:=(sr [ob 1 0,ci 2 0] (.seq (sr [ff 4 0 1,ll 5 4,c1 6 213 5,nt 7 6] (cd 7 (sr [ci 2 2] .ret) .skip)) (.seq (sr [ff 8 2 1,ll 9 8,c1 10 214 9,mm 3 10] (sr [mm 11 3,bi 12 .neq 11 0] (cd 12 (sr [mm 13 3,mm 2 13] .ret) .skip))) (.seq (.block 0 (sr [ff 15 1 1,ll 16 15,bs 17 .eql 16 [],mm 18 17,gf 19 0 1 3 true,gl 20 19 3 true,gs 21 .eql 20 [114,111,111,116] 3 true,pa 22 18 21,mm 14 22] (cd 14 (sr [ci 2 0] .ret) (sr [ff 24 1 1,ll 25 24,c1 26 213 25,mm 27 26,gf 28 1 1 3 true,gl 29 28 3 true,gf 30 0 1 3 true,gl 31 30 3 true,gt 32 .neq 29 31 3 true,pa 33 27 32,mm 23 33] (cd 23 (sr [ci 2 0] .ret) .skip))))) (sr [ci 2 2] .ret)))))
def fn113:Fn Qb 113 34 dc113 [.t 2]:=Am func113
def dc93:DC:=(sr [ob 2 0,ci 4 0,cb 5 false] (sr [ff 6 0 2,ll 7 6,mm 8 1,cc 9 195 [(.t 7),(.t 8),(.c (.fn 196 []))],xx 10 0 9,xx 11 1 9,mm 4 10,mm 5 11] .ret))
def fn93:Fn Qb 93 12 dc93 [.t 4,.t 5]:=Am func93
def dc195l0:DC:=(.seq (sr [mm 15 9,mm 16 10,bt 17 .lss 15 16] (cd 17 .skip (.exit 0))) (.block 1 (sr [mm 18 9,mm 19 10,bt 20 .add 18 19,oo 21 (.conv .u64 (.t 20)),oo 22 (.bin .shr (.t 21) (.c (.int .u64 1))),oo 23 (.conv .i64 (.t 22)),mm 11 23] (sr [mm 24 2,mm 25 0,mm 26 11,ii 27 3 25 26,lk 28 3 27,mm 29 1,oo 30 (.call (.t 24) [(.t 28),(.t 29)]),bi 31 .lss 30 0] (cd 31 (.row [mm 32 11,bi 33 .add 32 1,mm 9 33]) (.row [mm 34 11,mm 10 34]))))))
def dc195:DC:=(sr [ci 6 0,cb 7 false] (sr [mm 12 0,nn 13 false 12,mm 8 13] (sr [mm 14 8,ci 9 0,mm 10 14] (.seq (.block 0 (.loop dc195l0)) (sr [mm 35 9,mm 36 9,mm 37 8,bt 38 .lss 36 37,mm 39 38,gm 40 2 4 true,gm 41 0 4 true,gm 42 9 4 true,og 43 (.iaddr 3 (.t 41) (.t 42)) 4 true,og 44 (.load (some 3) (.t 43)) 4 true,gm 45 1 4 true,og 46 (.call (.t 40) [(.t 44),(.t 45)]) 4 true,gi 47 .eql 46 0 4 true,pa 48 39 47,mm 6 35,mm 7 48] .ret)))))
def fn195:Fn Qb 195 49 dc195 [.t 6,.t 7]:=Am func195
def dc196:DC:=(sr [ob 2 0,ci 4 0] (sr [ff 5 0 2,ll 6 5,mm 7 1,c2 8 109 6 7,mm 4 8] .ret))
def fn196:Fn Qb 196 9 dc196 [.t 4]:=Am func196
def dc115:DC:=(sr [ob 2 0,ob 3 1,al 4 [zn]] (sr [lk 8 1 2,ff 9 0 3,ll 10 9,c2 11 93 8 10,mm 7 11,xx 12 0 7,xx 13 1 7,mm 5 12,mm 6 13] (.seq (.drawn [ff 14 0 2,ll 15 14,mm 16 5,oo 17 (.cutl 3 (.t 15) none (some (.t 16))),lk 18 3 3,c1 19 94 18,bl 20 97 3 19,ff 21 0 2,ll 22 21,mm 23 5,oo 24 (.cutl 3 (.t 22) (some (.t 23)) none),oo 25 (.bslice 53 1 [(.t 17),(.t 20),(.t 24)]),c1 26 216 25,oo 27 (.build [zn] [(0,1,(.t 26))]),st 1 4 27] [(5,1),(5,8),(6,1),(6,8)]) .ret)))
def fn115:Fn Qb 115 28 dc115 [.cell (some 1) 4]:=Am func115
def dc94:DC:=(sr [ob 1 0,al 2 [zs,zs,zn]] (sr [ff 3 2 1,ll 4 3,c1 5 197 4,ff 6 2 1,st 1 6 5] (sr [lk 7 3 1,st 3 2 7] .ret)))
def fn94:Fn Qb 94 8 dc94 [.cell (some 3) 2]:=Am func94
def dc197:DC:=(sr [oo 2 (.mv (.c (.slice true [] [])))] (.seq (sr [mm 3 0,oo 4 (.nileq false 0 (.t 3) (.c (.slice true [] [])))] (cd 4 (sr [oo 2 (.mv (.c (.slice true [] [])))] .ret) .skip)) (sr [oo 5 (.bslice 209 2 []),mm 6 0,ap 7 209 2 24 5 6,mm 2 7] .ret)))
def fn197:Fn Qb 197 8 dc197 [.t 2]:=Am func197
def dc216l0:DC:=(sr [bt 12 .lss 11 10] (.seq (cd 12 .skip (.exit 0)) (.seq (.block 1 (sr [ii 13 1 9 11,ll 14 13,mm 5 14] (sr [mm 15 3,mm 16 5,nn 17 false 16,bt 18 .add 15 17,mm 3 18] (sr [mm 19 3,bi 20 .lss 19 0] (cd 20 (.row [oo 21 (.mkif 9 (.c (.str [108,101,110,32,111,117,116,32,111,102,32,114,97,110,103,101]))),oz (.stop)]) .skip))))) (.row [bi 22 .add 11 1,mm 11 22]))))
def dc216l1:DC:=(sr [bt 28 .lss 27 26] (.seq (cd 28 .skip (.exit 2)) (.seq (.block 3 (sr [ii 29 1 25 27,ll 30 29,mm 8 30] (.row [mm 31 6,mm 32 8,ap 33 97 3 56 31 32,mm 6 33]))) (.row [bi 34 .add 27 1,mm 27 34]))))
def dc216:DC:=(sr [oo 2 (.mv (.c (.slice true [] [])))] (sr [ci 3 0] (.seq (sr [mm 9 0,nn 10 false 9,ci 11 0] (.block 0 (.loop dc216l0))) (sr [mm 23 3,cc 24 315 [(.c (.slice true [] [])),(.t 23)],mm 6 24] (.seq (sr [mm 25 0,nn 26 false 25,ci 27 0] (.block 2 (.loop dc216l1))) (sr [mm 35 6,mm 2 35] .ret))))))
def fn216:Fn Qb 216 36 dc216 [.t 2]:=Am func216
def dc50:DC:=(sr [ob 2 0,ob 3 1,al 4 [zn],ci 5 0] (.seq (sr [lk 11 3 3,c1 12 113 11,mm 6 12] (sr [mm 13 6,bi 14 .neq 13 0] (cd 14 (sr [lk 15 1 2,mm 16 6,st 1 4 15,mm 5 16] .ret) .skip))) (.seq (sr [ff 17 1 3,ll 18 17,bs 19 .eql 18 []] (cd 19 (sr [lk 20 1 2,st 1 4 20,ci 5 2] .ret) .skip)) (.seq (sr [lk 22 1 2,ff 23 0 3,ll 24 23,c2 25 93 22 24,mm 21 25,xx 26 0 21,xx 27 1 21,mm 7 26,mm 8 27] (sr [mm 28 8] (cd 28 (sr [lk 29 1 2,st 1 4 29,ci 5 20] .ret) .skip))) (sr [lk 31 1 2,ff 32 1 3,ll 33 32,c2 34 93 31 33,mm 30 34,xx 35 0 30,xx 36 1 30,mm 9 35,mm 10 36] (.seq (sr [mm 37 10,nt 38 37] (cd 38 (sr [lk 39 1 2,st 1 4 39,ci 5 6] .ret) .skip)) (.seq (.seq (.drawn [ff 40 2 3,ll 41 40,ff 42 0 2,ll 43 42,mm 44 9,ii 45 3 43 44,ff 46 2 45,ll 47 46,c2 48 114 41 47,nt 49 48] []) (cd 49 (sr [lk 50 1 2,st 1 4 50,ci 5 13] .ret) .skip)) (sr [lk 51 1 2,lk 52 3 3,c2 53 115 51 52,st 1 4 53,ci 5 0] .ret))))))))
def fn50:Fn Qb 50 54 dc50 [.cell (some 1) 4,.t 5]:=Am func50
def dc35:DC:=(sr [ob 2 0,al 4 [zs,zs,zn],cb 5 false] (sr [lk 9 1 2,mm 10 1,c2 11 93 9 10,mm 8 11,xx 12 0 8,xx 13 1 8,mm 6 12,mm 7 13] (.seq (sr [mm 14 7,nt 15 14] (cd 15 (sr [oo 16 (.build [zs,zs,zn] []),st 3 4 16,cb 5 false] .ret) .skip)) (sr [ff 17 0 2,ll 18 17,mm 19 6,ii 20 3 18 19,lk 21 3 20,c1 22 94 21,st 3 4 22,cb 5 true] .ret))))
def fn35:Fn Qb 35 23 dc35 [.cell (some 3) 4,.t 5]:=Am func35
def dc36:DC:=(sr [ob 3 0,oo 6 (.mv (.c (.int .u8 0)))] (sr [lk 10 1 3,mm 11 1,c2 12 93 10 11,mm 9 12,xx 13 0 9,xx 14 1 9,mm 7 13,mm 8 14] (.seq (sr [mm 15 8,nt 16 15] (cd 16 (sr [oo 6 (.mv (.c (.int .u8 0)))] .ret) .skip)) (sr [ff 17 0 3,ll 18 17,mm 19 7,ii 20 3 18 19,ff 21 2 20,ll 22 21,mm 23 2,c2 24 95 22 23,mm 6 24] .ret))))
def fn36:Fn Qb 36 25 dc36 [.t 6]:=Am func36
def dc129l0:DC:=(sr [bt 10 .lss 9 8] (.seq (cd 10 .skip (.exit 0)) (.seq (.block 1 (sr [ii 11 3 7 9,lk 12 3 11,al 5 [zs,zs,zn],st 3 5 12] (.row [mm 13 3,ff 14 0 5,ll 15 14,bl 16 9 1 15,ap 17 9 1 16 13 16,mm 3 17]))) (.row [bi 18 .add 9 1,mm 9 18]))))
def dc129:DC:=(sr [ob 1 0,oo 2 (.mv (.c (.slice true [] [])))] (sr [oo 3 (.mv (.c (.slice true [] [])))] (.seq (sr [ff 6 0 1,ll 7 6,nn 8 false 7,ci 9 0] (.block 0 (.loop dc129l0))) (sr [mm 19 3,mm 2 19] .ret))))
def fn129:Fn Qb 129 20 dc129 [.t 2]:=Am func129
end Go.Vd
namespace Go.Vd
open Go.Proofs Go.RowKit
def v_slss{a b:Bs}:AY .lss (.str a) (.str b)=some (.bool (Op.bytesLess a b)):=by simp[AY]
def v_sgtr{a b:Bs}:AY .gtr (.str a) (.str b)=some (.bool (!(Op.bytesLess a b||a==b))):=by simp[AY]
def FN(a b:Bs):Int:=if Op.bytesLess a b=true then-1 else if a=b then 0 else 1
def F210:List D->Option D
 |[.str s]=>some (.bool false)
 |_=>none
def ok210:(Ac F210).ok Qb 210:=by
 refine Ay (S:=λ_=>none) AL fn210 (λds r h=>?_) (λds r h=>?_)
 ·unfold F210 at h;split at h
  ·simp
  ·cases h
 ·unfold F210 at h;split at h
  ·rename_i s;simp only[Qa]at h;subst h;unfold dc210;simp only[↓go1,gB3,reduceIte,Qf,Qh,and_self]
  ·cases h
def F109:List D->Option D
 |[.str a,.str b]=>some (.int .i64 (FN a b))
 |_=>none
def ok109:(Ac F109).ok Qb 109:=by
 obtain⟨S,hS,hl⟩:=A7 (Ab ok210 Ad);have s210:=hl 210 _ rfl;clear hl;refine Ay (S:=S) hS fn109 (λds r h=>?_) (λds r h=>?_)
 ·unfold F109 at h;split at h
  ·simp
  ·cases h
 ·unfold F109 at h;split at h
  ·rename_i a b;simp only[Qa]at h;subst h;unfold dc109;have h210:∀s,F210 [.str s]=some (.bool false):=λ_=>rfl
   unfold FN;cases hl:Op.bytesLess a b with
   |true=>simp only[↓go1,gB3,reduceIte,Qf,Qh,and_self,Aa s210,h210,v_slss,hl]
   |false=>
    by_cases he:a=b
    ·subst he;have he':(a==a)=true:=by simp
     simp only[↓go1,gB3,reduceIte,Qf,Qh,and_self,Aa s210,h210,v_slss,v_sgtr,hl,he',Bool.false_or]
    ·have he':(a==b)=false:=by simpa using he
     simp only[↓go1,gB3,reduceIte,Qf,Qh,and_self,Aa s210,h210,v_slss,v_sgtr,hl,he',he,Bool.or_false]
  ·cases h
def F108:List D->Option D
 |[.agg [.str p,.int .i64 q,.bool b],.agg [.str p2,.int .i64 q2,.bool b2]]=>some (.int .i64 (FN p p2))
 |_=>none
def ok108:(Ac F108).ok Qb 108:=by
 obtain⟨S,hS,hl⟩:=A7 (Ab ok109 Ad);have s109:=hl 109 _ rfl;clear hl;refine Ay (S:=S) hS fn108 (λds r h=>?_) (λds r h=>?_)
 ·unfold F108 at h;split at h
  ·simp
  ·cases h
 ·unfold F108 at h;split at h
  ·rename_i p q b p2 q2 b2;simp only[Qa]at h;subst h;unfold dc108;have h109:∀a b,F109 [.str a,.str b]=some (.int .i64 (FN a b)):=λ_ _=>rfl
   simp only[↓go1,gB2,go4,reduceIte,Qf,Qh,Af,Ql,QT,Qq,Qg,and_self,Qi,Qm,QP,Aa s109,h109]
  ·cases h
def F196:List D->Option D
 |[.agg [.str n,.str p,.slice nl t xs],.str s]=>some (.int .i64 (FN n s))
 |_=>none
def ok196:(Ac F196).ok Qb 196:=by
 obtain⟨S,hS,hl⟩:=A7 (Ab ok109 Ad);have s109:=hl 109 _ rfl;clear hl;refine Ay (S:=S) hS fn196 (λds r h=>?_) (λds r h=>?_)
 ·unfold F196 at h;split at h
  ·simp
  ·cases h
 ·unfold F196 at h;split at h
  ·rename_i n p nl t xs s;simp only[Qa]at h;subst h;unfold dc196;have h109:∀a b,F109 [.str a,.str b]=some (.int .i64 (FN a b)):=λ_ _=>rfl
   simp only[↓go1,gB2,go4,reduceIte,Qf,Qh,Af,Ql,QT,Qq,Qg,and_self,Aa s109,h109]
  ·cases h
abbrev Tk:=Bs×Bs×Bool×List Rl
def tkD(k:Tk):D:= .agg [.str k.1,.str k.2.1,.slice k.2.2.1 [] (An k.2.2.2)]
def Aw(l:List Tk):List D:=l.map tkD
def tkT:D->Tk
 | .agg [.str n,.str p,.slice nl _ xs]=>(n,p,nl,A9 xs)
 |_=>([],[],true,[])
def BX(xs:List D):List Tk:=xs.map tkT
def Bd(l:List Tk):BX (Aw l)=l:=by
 simp only[BX,Aw,QQ]
 conv=>rhs;rw[←List.map_id l]
 exact QG λr _=>by simp only[Function.comp,tkD,tkT,AN,id]
def AP(l:List Tk):(Aw l).length=l.length:=Qu ..
def A2(l:List Tk)(j:Nat):Tk:=l.getD j ([],[],true,[])
def Eg{l:List Tk}{j:Nat}(h:j<l.length):(Aw l)[j]?=some (tkD (A2 l j)):=by
 simp[Aw,A2,Qd h]
def bsR(l:List Tk)(s:Bs):Nat->Nat->Nat->Nat
 |0,lo,_=>lo
 |f+1,lo,hi=>if lo<hi then(if FN (A2 l ((lo+hi) / 2)).1 s<0 then bsR l s f ((lo+hi) / 2+1) hi else bsR l s f lo ((lo+hi) / 2))else lo
def bsE(l:List Tk)(s:Bs):Nat:=bsR l s l.length 0 l.length
def AR(l:List Tk)(s:Bs):Bool:=decide (bsE l s<l.length)&&decide (FN (A2 l (bsE l s)).1 s=0)
def bs_mid{lo hi:Nat}(h:lo+hi<1000000000):IntKind.i64.wrap ((IntKind.u64.wrap (IntKind.i64.wrap ((lo:Int)+(hi:Int)))).fdiv (2 ^ min (1:Int).toNat IntKind.u64.bits))=(((lo+hi) / 2:Nat):Int):=by
 have h1:IntKind.i64.wrap ((lo:Int)+(hi:Int))=((lo+hi:Nat):Int):=by rw[w64 (by omega) (by omega)];omega
 have h2:IntKind.u64.wrap ((lo+hi:Nat):Int)=((lo+hi:Nat):Int):=by
  simp only[IntKind.wrap,IntKind.signed,IntKind.bits,Zt,Zk,if_false];omega
 have h3:(((lo+hi:Nat):Int)).fdiv (2 ^ min (1:Int).toNat IntKind.u64.bits)=(((lo+hi) / 2:Nat):Int):=by
  rw[show(2:Int) ^ min (1:Int).toNat IntKind.u64.bits=2 from rfl,Int.fdiv_eq_ediv_of_nonneg _ (by omega)];omega
 rw[h1,h2,h3,w64 (by omega) (by omega)]
def loop195{S:Summs}{ns:Id}{l:List Tk}{nl:Bool}{t:Id}{s:Bs}{Q:Ex->St->Prop}{e:Nat}(s196:S 196=some (Ac F196))(hb:l.length<=1000000)
  (hexit:∀st,st.s 0= .slice nl t (Aw l)->st.s 1= .str s->st.s 2= .fn 196 []->st.s 8= .int .i64 (l.length:Int)->st.s 9= .int .i64 (e:Int)->Q (.exit 0) st):
  ∀(f lo hi:Nat) st g,hi<=lo+f->hi<=l.length->bsR l s f lo hi=e->st.s 0= .slice nl t (Aw l)->st.s 1= .str s->st.s 2= .fn 196 []->st.s 8= .int .i64 (l.length:Int)->st.s 9= .int .i64 (lo:Int)->st.s 10= .int .i64 (hi:Int)->A8 S ns dc195l0 Q st g:=by
 intro f;induction f with
 |zero=>
  intro lo hi st g hf hh he h0 h1 h2 h8 h9 h10;refine Ae dc195l0.eq_1 ?_;have:¬((lo:Int)<hi):=by omega
  simp only[↓go1,go2,go4,reduceIte,Qf,Qh,h9,h10,this];exact hexit _ h0 h1 h2 h8 (by rw[←he];exact h9)
 |succ f ih=>
  intro lo hi st g hf hh he h0 h1 h2 h8 h9 h10;refine Ae dc195l0.eq_1 ?_;unfold bsR at he;by_cases hlt:lo<hi
  ·rw[if_pos hlt]at he;have hlt':((lo:Int)<hi):=by omega
   have hmid:=bs_mid (lo:=lo) (hi:=hi) (by omega);have hml:(lo+hi) / 2<hi:=by omega
   have hlm:lo<=(lo+hi) / 2:=by omega
   generalize (lo+hi) / 2=mid at he hmid hml hlm;have hm0:(0:Int)<=(mid:Int):=by omega
   have one0:(0:Int)<=1:=by omega
   have hw:IntKind.i64.wrap ((mid:Int)+1)=((mid+1:Nat):Int):=w64 (by omega) (by omega);have hat:=Eg (l:=l) (j:=mid) (by omega);generalize A2 l mid=k at hat he;obtain⟨n,p,knl,rs⟩:=k;replace hat:(Aw l)[mid]?=some (.agg [.str n,.str p,.slice knl [] (An rs)]):=hat;have h196:F196 [.agg [.str n,.str p,.slice knl [] (An rs)],.str s]=some (.int .i64 (FN n s)):=rfl;simp only at he;generalize FN n s=c at he h196;obtain⟨st_s,st_m,st_c⟩:=st;simp only at h0 h1 h2 h8 h9 h10;by_cases hc:c<0
   ·rw[if_pos hc]at he;simp only[↓go1,gB2,go4,reduceIte,Qf,Qh,h0,h1,h2,h9,h10,hlt',hmid,hm0,one0,hw,hat,hc,Qe,Aa s196,h196,QY,Qt,Qy];exact ih (mid+1) hi _ _ (by omega) hh he h0 h1 h2 h8 rfl h10
   ·rw[if_neg hc]at he;simp only[↓go1,gB2,go4,reduceIte,Qf,Qh,h0,h1,h2,h9,h10,hlt',hmid,hm0,one0,hat,hc,Qe,Aa s196,h196,QY,Qt,Qy];exact ih lo mid _ _ (by omega) (by omega) he h0 h1 h2 h8 h9 rfl
  ·rw[if_neg hlt]at he;have hlt':¬((lo:Int)<hi):=by omega
   simp only[↓go1,go2,go4,reduceIte,Qf,Qh,h9,h10,hlt'];exact hexit _ h0 h1 h2 h8 (by rw[←he];exact h9)
def bsR_le(l:List Tk)(s:Bs):∀(f lo hi:Nat),lo<=hi->bsR l s f lo hi<=hi
 |0,lo,hi,h=>by simpa[bsR]using h
 |f+1,lo,hi,h=>by
  unfold bsR;split
  ·split
   ·exact bsR_le l s f _ _ (by omega)
   ·exact Q8 (bsR_le l s f _ _ (by omega)) (by omega)
  ·exact h
open Classical in
def F195:List D->Option D
 |[.slice _ _ xs,.str s,.fn 196 []]=>if xs=Aw (BX xs)∧xs.length<=1000000 then some (.tup [.int .i64 (bsE (BX xs) s:Int),.bool (AR (BX xs) s)])else none
 |_=>none
open Classical in
def F195_eq{nl:Bool}{t:Id}{l:List Tk}{s:Bs}(hl:l.length<=1000000):F195 [.slice nl t (Aw l),.str s,.fn 196 []]=some (.tup [.int .i64 (bsE l s:Int),.bool (AR l s)]):=by
 have h:Aw l=Aw (BX (Aw l))∧(Aw l).length<=1000000:=by rw[Bd,AP];exact⟨rfl,hl⟩
 show(if _ then _ else _)=_;rw[if_pos h,Bd]
def ok195:(Ac F195).ok Qb 195:=by
 obtain⟨S,hS,hl⟩:=A7 (Ab ok196 Ad);have s196:=hl 196 _ rfl;clear hl;refine Ay (S:=S) hS fn195 (λds r h=>?_) (λds r h=>?_)
 ·unfold F195 at h;split at h
  ·simp
  ·cases h
 ·unfold F195 at h;split at h
  ·rename_i nl t xs s;split at h
   ·rename_i hc;obtain⟨hx,hl⟩:=hc;simp only[Qa]at h;subst h;generalize BX xs=l at hx;subst hx;rw[AP]at hl;have hle:bsE l s<=l.length:=bsR_le l s _ _ _ (by omega);unfold dc195;simp only[↓go1,go2,reduceIte,Qf,Qh,AP];refine loop195 (l:=l) (nl:=nl) (t:=t) (s:=s) (e:=bsE l s) s196 hl (λst h0 h1 h2 h8 h9=>?_) l.length 0 l.length _ _ (by omega) (by omega) rfl rfl rfl rfl rfl rfl rfl;unfold AR;generalize bsE l s=i at h9 hle;by_cases hi:i<l.length
    ·have hi':((i:Int)<l.length):=by omega
     have hi0:(0:Int)<=(i:Int):=by omega
     have hat:=Eg (l:=l) (j:=i) hi;generalize A2 l i=k at hat;obtain⟨n,p,knl,rs⟩:=k;replace hat:(Aw l)[i]?=some (.agg [.str n,.str p,.slice knl [] (An rs)]):=hat;have h196:F196 [.agg [.str n,.str p,.slice knl [] (An rs)],.str s]=some (.int .i64 (FN n s)):=rfl;simp only[↓go1,gB2,go4,reduceIte,Qf,Qh,h0,h1,h2,h8,h9,hi',hi0,hat,Qe,Aa s196,h196,QY,Qt,Qy];simp[hi]
    ·have hi':¬((i:Int)<l.length):=by omega
     simp only[↓go1,gB3,reduceIte,Qf,Qh,h8,h9,hi'];simp[hi]
   ·cases h
  ·cases h
def tksD_un(l:List Tk):(Aw l).map D.un=Aw l:=by rw[Aw,QQ];exact QG λ_ _=>rfl
def tksD_head(l:List Tk):D.headSz (Aw l) 3=3:=by cases l<;>rfl
def Eb(xs:List D):Prop:=xs=Aw (BX xs)∧xs.length<=1000000
def DS{l:List Tk}(hl:l.length<=1000000):Eb (Aw l):=⟨by rw[Bd],by rw[AP];exact hl⟩
def DG{xs:List D}(h:Eb xs):∃l:List Tk,xs=Aw l∧l.length<=1000000∧BX xs=l:=by
 refine⟨BX xs,h.1,?_,rfl⟩;have:=h.2;rw[h.1,AP]at this;exact this
open Classical in
def F93:List D->Option D
 |[.agg [.slice _ _ xs],.str s]=>if Eb xs then some (.tup [.int .i64 (bsE (BX xs) s:Int),.bool (AR (BX xs) s)])else none
 |_=>none
open Classical in
def F93_eq{nl:Bool}{t:Id}{l:List Tk}{s:Bs}(hl:l.length<=1000000):F93 [.agg [.slice nl t (Aw l)],.str s]=some (.tup [.int .i64 (bsE l s:Int),.bool (AR l s)]):=by
 show(if _ then _ else _)=_;rw[if_pos (DS hl),Bd]
def ok93:(Ac F93).ok Qb 93:=by
 obtain⟨S,hS,hl⟩:=A7 (Ab ok195 Ad);have s195:=hl 195 _ rfl;clear hl;refine Ay (S:=S) hS fn93 (λds r h=>?_) (λds r h=>?_)
 ·unfold F93 at h;split at h
  ·simp
  ·cases h
 ·unfold F93 at h;split at h
  ·rename_i nl t xs s;split at h
   ·rename_i hc;obtain⟨l,rfl,hl,e⟩:=DG hc;simp only[Qa]at h;subst h;rw[e];have h195:=F195_eq (nl:=nl) (t:=[]) (s:=s) hl;unfold dc93;simp only[↓go1,gB0,simprocAttr,Af,Aa s195,h195]
   ·cases h
  ·cases h
open Classical in
def F36:List D->Option D
 |[.agg [.slice _ _ xs],.str s,.str p]=>if Eb xs∧∀k∈BX xs,k.2.2.2.length<=1000000 then some (.int .u8 (if AR (BX xs) s=true then BA (A2 (BX xs) (bsE (BX xs) s)).2.2.2 p else 0))else none
 |_=>none
def ok36:(Ac F36).ok Qb 36:=by
 obtain⟨S,hS,hl⟩:=A7 (Ab ok93 (Ab ok95 Ad));have s93:=hl 93 _ rfl;have s95:=hl 95 _ rfl;clear hl;refine Ay (S:=S) hS fn36 (λds r h=>?_) (λds r h=>?_)
 ·unfold F36 at h;split at h
  ·simp
  ·cases h
 ·unfold F36 at h;split at h
  ·rename_i nl t xs s p;split at h
   ·rename_i hc;obtain⟨hc,hk⟩:=hc;obtain⟨l,rfl,hl,e⟩:=DG hc;rw[e]at hk h;simp only[Qa]at h;subst h;have h93:=F93_eq (nl:=nl) (t:=[]) (s:=s) hl;have hu:=tksD_un l;unfold dc36;cases hf:AR l s with
    |false=>simp only[↓go1,gB0,simprocAttr,Af,Ap,Aq,Qc,Aa s93,h93,hf]
    |true=>
     have hi:bsE l s<l.length:=by
      unfold AR at hf;rw[Q_,decide_eq_true_iff]at hf;exact hf.1
     rw[hf]at h93;generalize bsE l s=i at h93 hi;have hi0:(0:Int)<=(i:Int):=by omega
     have hat:=Eg (l:=l) (j:=i) hi;have hm:A2 l i∈l:=by simp[A2,Qd hi]
     have hlk:=hk _ hm;generalize A2 l i=k at hat hlk;obtain⟨n,q,knl,rs⟩:=k;replace hat:(Aw l)[i]?=some (.agg [.str n,.str q,.slice knl [] (An rs)]):=hat;have h95:=F95_eq (nl:=knl) (t:=[]) (s:=p) hlk;simp only[↓go1,gB0,simprocAttr,Af,Ap,Aq,Qc,Qj,Qv,Qp,Aa s93,h93,Aa s95,h95,hi0,hat,Qe]
   ·cases h
  ·cases h
def FS(n p:Bs)(l:List Rl):Int:=if BD n=false then 2 else if Cr l≠0 then Cr l else if p=[]∧n=[114,111,111,116]then 0 else if BD p=true∧p≠n then 0 else 2
open Classical in
def F113:List D->Option D
 |[.agg [.str n,.str p,.slice _ _ xs]]=>if(xs=An (A9 xs)∧xs.length<=1000000∧By (A9 xs))∧n.length<=1000000∧p.length<=1000000 then some (.int .i64 (FS n p (A9 xs)))else none
 |_=>none
open Classical in
def F113_eq{n p:Bs}{nl:Bool}{t:Id}{l:List Rl}(hl:l.length<=1000000)(hp:By l)(h1:n.length<=1000000)(h2:p.length<=1000000):F113 [.agg [.str n,.str p,.slice nl t (An l)]]=some (.int .i64 (FS n p l)):=by
 have h:(An l=An (A9 (An l))∧(An l).length<=1000000∧By (A9 (An l)))∧n.length<=1000000∧p.length<=1000000:=by rw[AN,Av];exact⟨⟨rfl,hl,hp⟩,h1,h2⟩
 show(if _ then _ else _)=_;rw[if_pos h,AN]
def ok113:(Ac F113).ok Qb 113:=by
 obtain⟨S,hS,hl⟩:=A7 (Ab ok213 (Ab ok214 Ad));have s213:=hl 213 _ rfl;have s214:=hl 214 _ rfl;clear hl;refine Ay (S:=S) hS fn113 (λds r h=>?_) (λds r h=>?_)
 ·unfold F113 at h;split at h
  ·simp
  ·cases h
 ·unfold F113 at h;split at h
  ·rename_i n p nl t xs;split at h
   ·rename_i hc;obtain⟨⟨hx,hl,hp⟩,hn,hpp⟩:=hc;simp only[Qa]at h;subst h;generalize A9 xs=l at hx hp;subst hx;rw[Av]at hl;have h213n:F213 [.str n]=some (.bool (BD n)):=if_pos hn;have h213p:F213 [.str p]=some (.bool (BD p)):=if_pos hpp;have h214:=Fpol_eq (nl:=nl) (t:=[]) hl hp;have hu:=EX l;have hcl:=C0 l;unfold dc113 FS;generalize Cr l=e at *;generalize BD p=bp at *;generalize BD n=bn at *;cases bn with
    |false=>simp only[↓go1,gB2,go4,simprocAttr,Af,Ql,Qq,Qg,and_self,Aa s213,h213n]
    |true=>
     simp only[↓go1,gB0,simprocAttr,Af,Aa s213,h213n,Aa s214,h214]
     repeat' (first|(refine ifQ.intro (λh=>?_) (λh=>?_)<;>try (exfalso;omega))|(simp only[↓go1,gB0,simprocAttr,h,Af,false_and,Aa s213,h213p]))
     all_goals (try simp_all)
   ·cases h
  ·cases h
def Be{s:Nat->D}{m:Mem}{k:Option Nat}{a b:Nat}:Cn [.cell k a,.t b] s m=(ldD m k (s a)).map λd=> .tup [d,s b]:=by
 simp only[Cn,Fx,RV.of];cases ldD m k (s a)<;>rfl
def bne_tf:(true !=false)=true:=rfl
def bne_ff:(false !=false)=false:=rfl
def rlsOk(nl:Bool)(xs:List D):Prop:=xs=An (A9 xs)∧xs.length<=1000000∧(nl=true->xs=[])
def rlsOk_mk{nl:Bool}{l:List Rl}(hl:l.length<=1000000)(hn:nl=true->l=[]):rlsOk nl (An l):=⟨by rw[AN],by rw[Av];exact hl,λh=>by rw[hn h];rfl⟩
def FA{nl:Bool}{xs:List D}(h:rlsOk nl xs):∃l:List Rl,xs=An l∧l.length<=1000000∧(nl=true->l=[])∧A9 xs=l:=by
 refine⟨A9 xs,h.1,?_,λhn=>?_,rfl⟩
 ·have:=h.2.1;rw[h.1,Av]at this;exact this
 ·rw[h.2.2 hn];rfl
open Classical in
def F197:List D->Option D
 |[.slice nl _ xs]=>if rlsOk nl xs then some (.slice nl [] xs)else none
 |_=>none
open Classical in
def F197_eq{nl:Bool}{t:Id}{l:List Rl}(hl:l.length<=1000000)(hn:nl=true->l=[]):F197 [.slice nl t (An l)]=some (.slice nl [] (An l)):=by
 show(if _ then _ else _)=_;rw[if_pos (rlsOk_mk hl hn)]
def ok197:(Ac F197).ok Qb 197:=by
 refine Ay (S:=λ_=>none) AL fn197 (λds r h=>?_) (λds r h=>?_)
 ·unfold F197 at h;split at h
  ·simp
  ·cases h
 ·unfold F197 at h;split at h
  ·rename_i nl t xs;split at h
   ·rename_i hc;obtain⟨l,rfl,hl,hn,e⟩:=FA hc;simp only[Qa]at h;subst h;have n1:(An l).length*25<=140737488355328:=by rw[Av];omega
    unfold dc197;cases nl with
    |true=>
     have:=hn rfl;subst this;simp only[↓go1,gB3,simprocAttr,bne_tf,nilEq];rfl
    |false=>simp only[↓go1,gB2,go4,simprocAttr,Af,Ql,Qq,Qg,and_self,false_and,bne_ff,n1,F9,E5,rlsD_head,false_or,QK,ne_eq,QR,QS,nilEq]
   ·cases h
  ·cases h
open Classical in
def F94:List D->Option D
 |[.agg [.str n,.str p,.slice nl _ xs]]=>if rlsOk nl xs then some (.agg [.str n,.str p,.slice nl [] xs])else none
 |_=>none
open Classical in
def F94_eq{n p:Bs}{nl:Bool}{t:Id}{l:List Rl}(hl:l.length<=1000000)(hn:nl=true->l=[]):F94 [.agg [.str n,.str p,.slice nl t (An l)]]=some (.agg [.str n,.str p,.slice nl [] (An l)]):=by
 show(if _ then _ else _)=_;rw[if_pos (rlsOk_mk hl hn)]
def ok94:(Ac F94).ok Qb 94:=by
 obtain⟨S,hS,hl⟩:=A7 (Ab ok197 Ad);have s197:=hl 197 _ rfl;clear hl;refine Ay (S:=S) hS fn94 (λds r h=>?_) (λds r h=>?_)
 ·unfold F94 at h;split at h
  ·simp
  ·cases h
 ·unfold F94 at h;split at h
  ·rename_i n p nl t xs;split at h
   ·rename_i hc;obtain⟨l,rfl,hl,hn,e⟩:=FA hc;simp only[Qa]at h;subst h;have h197:=F197_eq (t:=[]) hl hn;unfold dc94;simp only[↓go1,gB0,simprocAttr,Af,Ap,Aq,Qc,Qk,Qi,Qm,and_false,Qn,Bf,AX,Aa s197,h197]
   ·cases h
  ·cases h
def tkOk(k:Tk):Prop:=k.2.2.2.length<=1000000∧(k.2.2.1=true->k.2.2.2=[])
open Classical in
def F35:List D->Option D
 |[.agg [.slice _ _ xs],.str s]=>if Eb xs∧∀k∈BX xs,tkOk k then some (.tup (if AR (BX xs) s=true then [tkD (A2 (BX xs) (bsE (BX xs) s)),.bool true]else [.agg [.str [],.str [],.slice true [] []],.bool false]))else none
 |_=>none
def ok35:(Ac F35).ok Qb 35:=by
 obtain⟨S,hS,hl⟩:=A7 (Ab ok93 (Ab ok94 Ad));have s93:=hl 93 _ rfl;have s94:=hl 94 _ rfl;clear hl;refine Ay (S:=S) hS fn35 (λds r h=>?_) (λds r h=>?_)
 ·unfold F35 at h;split at h
  ·simp
  ·cases h
 ·unfold F35 at h;split at h
  ·rename_i nl t xs s;split at h
   ·rename_i hc;obtain⟨hc,hk⟩:=hc;obtain⟨l,rfl,hl,e⟩:=DG hc;rw[e]at hk h;simp only[Qa]at h;subst h;have h93:=F93_eq (nl:=nl) (t:=[]) (s:=s) hl;have hu:=tksD_un l;unfold dc35;cases hf:AR l s with
    |false=>simp only[↓go1,gB0,simprocAttr,Af,Ap,Aq,Qc,Qk,Qi,Qm,and_false,Qn,AX,Be,BK,Aa s93,h93,hf]
    |true=>
     have hi:bsE l s<l.length:=by
      unfold AR at hf;rw[Q_,decide_eq_true_iff]at hf;exact hf.1
     rw[hf]at h93;generalize bsE l s=i at h93 hi;have hi0:(0:Int)<=(i:Int):=by omega
     have hat:=Eg (l:=l) (j:=i) hi;have hm:A2 l i∈l:=by simp[A2,Qd hi]
     have hlk:=hk _ hm;generalize A2 l i=k at hat hlk;obtain⟨n,q,knl,rs⟩:=k;replace hat:(Aw l)[i]?=some (.agg [.str n,.str q,.slice knl [] (An rs)]):=hat;have h94:=F94_eq (n:=n) (p:=q) (t:=[]) hlk.1 hlk.2;simp only[↓go1,gB0,simprocAttr,Af,Ap,Aq,Qc,Qt,Qy,Qk,Qi,Qm,and_false,Qn,AX,Be,Aa s93,h93,Aa s94,h94,hi0,hat,Qe,tkD]
   ·cases h
  ·cases h
end Go.Vd
namespace Go.Vd
open Go.Proofs
def dc106l0:DC:=(sr [bt 12 .lss 11 10] (.seq (cd 12 .skip (.exit 0)) (.seq (.block 1 (sr [ii 13 1 9 11,ll 14 13,mm 5 14] (sr [mm 15 3,mm 16 5,nn 17 false 16,bt 18 .add 15 17,mm 3 18] (sr [mm 19 3,bi 20 .lss 19 0] (cd 20 (.row [oo 21 (.mkif 9 (.c (.str [108,101,110,32,111,117,116,32,111,102,32,114,97,110,103,101]))),oz (.stop)]) .skip))))) (.row [bi 22 .add 11 1,mm 11 22]))))
def dc106l1:DC:=(sr [bt 28 .lss 27 26] (.seq (cd 28 .skip (.exit 2)) (.seq (.block 3 (sr [ii 29 1 25 27,ll 30 29,mm 8 30] (.row [mm 31 6,mm 32 8,ap 33 124 3 32 31 32,mm 6 33]))) (.row [bi 34 .add 27 1,mm 27 34]))))
def dc106:DC:=(sr [oo 2 (.mv (.c (.slice true [] [])))] (sr [ci 3 0] (.seq (sr [mm 9 0,nn 10 false 9,ci 11 0] (.block 0 (.loop dc106l0))) (sr [mm 23 3,cc 24 207 [(.c (.slice true [] [])),(.t 23)],mm 6 24] (.seq (sr [mm 25 0,nn 26 false 25,ci 27 0] (.block 2 (.loop dc106l1))) (sr [mm 35 6,mm 2 35] .ret))))))
def fn106:Fn Qb 106 36 dc106 [.t 2]:=Am func106
end Go.Vd
namespace Go.Vd
open Go.Proofs Go.RowKit
abbrev sz3:D->Bool:=szB 3
def Fcat3:List D->Option D
 |[.slice _ _ L]=>match En L with
  |some ys=>if L.length<=1000∧0<ys.length∧ys.length<=100000∧ys.all sz3=true then some (.slice false [] ys)else none
  |none=>none
 |_=>none
set_option maxRecDepth 20000 in
def walkGrow315(w:World)(k:Nat)(h0:0<k)(hk:k<=1000000):
  Calls Qb 315 #[.slice none 0 0,.int .i64 (k:Int)] w λe w'=>e= .returned (.slice (some ⟨w.heap.size,0,none⟩) 0 (grownCap w k 0 97))∧w'=w.drew.alloc (.cells (Builtin.zeroCells #[.string .empty,.string .empty,.slice none 0 0] k++Builtin.zeroCells #[.string .empty,.string .empty,.slice none 0 0] (grownCap w k 0 97-k)) 97):=by
 have happ:=Lib.run_append_nil_zeros (P:=Qb) w 53 3 53 97 t97 (.agg #[.string .empty,.string .empty,.slice none 0 0]) .i64 .i64 underlying53 underlying3 (by kernel_rfl) (by kernel_rfl) k h0 (by decide) (by omega) (by show k*56<=_;omega)
 go_enter func315,ntmps315
 go_wp2_with (first|(at_builtin;refine Lib.wpList_append_run _ rfl _ _ _ _ rfl _ _ rfl rfl _ _ happ ?_))
 all_goals go_ret
 all_goals exact⟨rfl,rfl⟩
def ok315:(Dr 97).ok Qb 315:=by
 refine grow_ok (sz:=3) ⟨_,func315,by kernel_rfl,by kernel_rfl⟩ (by decide) ⟨t97,(.agg #[.string .empty,.string .empty,.slice none 0 0]),by kernel_rfl,by kernel_rfl,by kernel_rfl,by kernel_rfl⟩ (λw k h0 hk=>?_);refine(walkGrow315 w k h0 hk).mono ?_;rintro e w' ⟨rfl,rfl⟩;refine⟨_,_,grownCap_le_maxLen w k 0 97 (by unfold maxLen;omega),?_,rfl,rfl⟩;have hge:=grownCap_ge w k 0 97;simp only[Array.size_append,size_zeroCells];simp;omega
def fcat3_get{ds:List D}{r:D}(h:Fcat3 ds=some r):∃nl t L ys,ds=[.slice nl t L]∧En L=some ys∧L.length<=1000∧0<ys.length∧ys.length<=100000∧ys.all (szB 3)=true∧r= .slice false [] ys:=by
 unfold Fcat3 at h;split at h
 ·rename_i nl t L;split at h
  ·rename_i ys hys;split at h
   ·rename_i hc;simp only[Qa]at h;subst h;exact⟨nl,t,L,ys,rfl,hys,hc.1,hc.2.1,hc.2.2.1,hc.2.2.2,rfl⟩
   ·cases h
  ·cases h
 ·cases h
def ok216(h315:(Dr 97).ok Qb 315):(Ac Fcat3).ok Qb 216:=cat_fun (pt:=9) (bytes:=56) fn216 (by omega) h315 λ_ _ h=>fcat3_get h
set_option maxRecDepth 20000 in
def walkGrow207(w:World)(k:Nat)(h0:0<k)(hk:k<=1000000):
  Calls Qb 207 #[.slice none 0 0,.int .i64 (k:Int)] w λe w'=>e= .returned (.slice (some ⟨w.heap.size,0,none⟩) 0 (grownCap w k 0 124))∧w'=w.drew.alloc (.cells (Builtin.zeroCells #[.string .empty,.int .i64 0,.bool false] k++Builtin.zeroCells #[.string .empty,.int .i64 0,.bool false] (grownCap w k 0 124-k)) 124):=by
 have happ:=Lib.run_append_nil_zeros (P:=Qb) w 50 3 50 124 t124 (.agg #[.string .empty,.int .i64 0,.bool false]) .i64 .i64 underlying50 underlying3 (by kernel_rfl) (by kernel_rfl) k h0 (by decide) (by omega) (by show k*32<=_;omega)
 go_enter func207,ntmps207
 go_wp2_with (first|(at_builtin;refine Lib.wpList_append_run _ rfl _ _ _ _ rfl _ _ rfl rfl _ _ happ ?_))
 all_goals go_ret
 all_goals exact⟨rfl,rfl⟩
def ok207:(Dr 124).ok Qb 207:=by
 refine grow_ok (sz:=3) ⟨_,func207,by kernel_rfl,by kernel_rfl⟩ (by decide) ⟨t124,(.agg #[.string .empty,.int .i64 0,.bool false]),by kernel_rfl,by kernel_rfl,by kernel_rfl,by kernel_rfl⟩ (λw k h0 hk=>?_);refine(walkGrow207 w k h0 hk).mono ?_;rintro e w' ⟨rfl,rfl⟩;refine⟨_,_,grownCap_le_maxLen w k 0 124 (by unfold maxLen;omega),?_,rfl,rfl⟩;have hge:=grownCap_ge w k 0 124;simp only[Array.size_append,size_zeroCells];simp;omega
def ok106(h207:(Dr 124).ok Qb 207):(Ac Fcat3).ok Qb 106:=cat_fun (pt:=9) (bytes:=32) fn106 (by omega) h207 λ_ _ h=>fcat3_get h
def firstTk:Tk:=([114,111,111,116],[],false,[([],63)])
def F112:List D->Option D
 |[]=>some (tkD firstTk)
 |_=>none
def ok112:(Ac F112).ok Qb 112:=by
 refine Ay (S:=λ_=>none) AL fn112 (λds r h=>?_) (λds r h=>?_)
 ·unfold F112 at h;split at h
  ·simp
  ·cases h
 ·unfold F112 at h;split at h
  ·simp only[Qa]at h;subst h;unfold dc112;simp only[↓go1,gB0,simprocAttr,Af,Ap,Aq,Qc,Qt,Qy,Qk,Qj,Qv,Qi,Qm,and_false,Qn,Bf,AX,BK,C5,QK,QR,QS,tkD,firstTk,An,rlD,Ze,QR]
  ·cases h
def F48:List D->Option D
 |[]=>some (.agg [.slice false [] (Aw [firstTk])])
 |_=>none
def ok48:(Ac F48).ok Qb 48:=by
 obtain⟨S,hS,hl⟩:=A7 (Ab ok112 Ad);have s112:=hl 112 _ rfl;clear hl;refine Ay (S:=S) hS fn48 (λds r h=>?_) (λds r h=>?_)
 ·unfold F48 at h;split at h
  ·simp
  ·cases h
 ·unfold F48 at h;split at h
  ·simp only[Qa]at h;subst h;have h112:F112 []=some (.agg [.str [114,111,111,116],.str [],.slice false [] [.agg [.str [],.int .u8 63]]]):=rfl;unfold dc48;simp only[↓go1,gB2,go4,simprocAttr,Af,Ap,Aq,Ql,Qq,Qg,and_self,Qc,Qy,Qk,Qj,Qv,Qi,Qm,Qn,Bf,AX,BK,C5,QK,QR,QS,Aa s112,h112,Aw,tkD,firstTk,An,rlD,Ze,QR]
  ·cases h
def Es(l:List Tk)(k:Tk):List Tk:=l.take (bsE l k.1)++k::l.drop (bsE l k.1)
open Classical in
def F115:List D->Option D
 |[.agg [.slice _ _ xs],.agg [.str n,.str p,.slice nl _ ys]]=>if Eb xs∧xs.length<=90000∧rlsOk nl ys then some (.agg [.slice false [] (Aw (Es (BX xs) (n,p,nl,A9 ys)))])else none
 |_=>none
open Classical in
def F115_eq{nl0 nl:Bool}{t0 t:Id}{l:List Tk}{n p:Bs}{rs:List Rl}(hl:l.length<=90000)(hr:rs.length<=1000000)(hn:nl=true->rs=[]):
  F115 [.agg [.slice nl0 t0 (Aw l)],.agg [.str n,.str p,.slice nl t (An rs)]]=some (.agg [.slice false [] (Aw (Es l (n,p,nl,rs)))]):=by
 have h:Eb (Aw l)∧(Aw l).length<=90000∧rlsOk nl (An rs):=⟨DS (by omega),by rw[AP];exact hl,rlsOk_mk hr hn⟩;show(if _ then _ else _)=_;rw[if_pos h,Bd,AN]
def ok115:(Ac F115).ok Qb 115:=by
 obtain⟨S,hS,hl⟩:=A7 (Ab ok93 (Ab ok94 (Ab (ok216 ok315) Ad)));have s93:=hl 93 _ rfl;have s94:=hl 94 _ rfl;have s216:=hl 216 _ rfl;clear hl;refine Ay (S:=S) hS fn115 (λds r h=>?_) (λds r h=>?_)
 ·unfold F115 at h;split at h
  ·simp
  ·cases h
 ·unfold F115 at h;split at h
  ·rename_i nl0 t0 xs n p nl t ys;split at h
   ·rename_i hc;obtain⟨hc,h9,hr⟩:=hc;obtain⟨l,rfl,hl,e⟩:=DG hc;obtain⟨rs,rfl,hrl,hrn,e2⟩:=FA hr;rw[e,e2]at h;rw[AP]at h9;simp only[Qa]at h;subst h;have h93:=F93_eq (nl:=nl0) (t:=[]) (s:=n) hl;have h94:=F94_eq (n:=n) (p:=p) (t:=[]) hrl hrn;have hle:bsE l n<=l.length:=bsR_le l n _ _ _ (by omega);unfold Es;generalize bsE l n=i at h93 hle;generalize AR l n=fd at h93;have hi0:(0:Int)<=(i:Int):=by omega
    have hil:(i:Int)<=(l.length:Int):=by omega
    have hll:l.length<=l.length:=QA _;have htk:(Aw l).take i=Aw (l.take i):=(List.map_take ..).symm;have hdr:((Aw l).drop i).take (l.length-i)=Aw (l.drop i):=by
     rw[Za (by rw[QU,AP];omega)];exact(List.map_drop ..).symm
    have hcat:Fcat3 [.slice false [] [.slice nl0 [] (Aw (l.take i)),.slice false [] [.agg [.str n,.str p,.slice nl [] (An rs)]],.slice nl0 [] (Aw (l.drop i))]]=some (.slice false [] (Aw (l.take i++(n,p,nl,rs)::l.drop i))):=by
     have e1:En [.slice nl0 [] (Aw (l.take i)),.slice false [] [.agg [.str n,.str p,.slice nl [] (An rs)]],.slice nl0 [] (Aw (l.drop i))]=some (Aw (l.take i++(n,p,nl,rs)::l.drop i)):=by
      simp[En,Aw,tkD]
     simp only[Fcat3,e1];rw[if_pos];refine⟨by simp,?_,?_,?_⟩
     ·rw[AP];simp only[Qx,Qz];omega
     ·rw[AP];simp only[Qx,Qz,QD,QU];omega
     ·rw[Qw];intro x hx;obtain⟨y,_,rfl⟩:=QF.1 hx;rfl
    unfold dc115;simp only[↓go1,gB0,simprocAttr,Af,Ap,Aq,Qc,Qy,Qk,Qj,Qv,Qi,Qm,and_false,Qn,BK,C5,tksD_head,QK,QR,QS,Aa s93,h93,Aa s94,h94,Aa s216,hcat,AP,hi0,hil,htk,hdr,Qe,QA];refine Ao.intro (Aj rfl) ?_;simp only[↓go1,gB2,go4,simprocAttr,Af,Ap,Aq,Qq,Qg,and_self,Qc,Qj,Qi,Qn,Bf,AX,QR,QS,htk,hdr,QA]
   ·cases h
  ·cases h
def loop114i{S:Summs}{ns:Id}{a b l:List Rl}{nl na nb:Bool}{t ta tb:Id}{Q:Ex->St->Prop}{e:Bool}{d19:D}{i:Int}(s95:S 95=some (Ac F95))(s215:S 215=some (Ac F215))
  (la:a.length<=1000000) (lb:b.length<=1000000) (pb:By b) (ca:DM a) (cb:DM b) (hb:l.length<=1000000) (hpl:By l)
  (hret:∀st,e=false->st.s 4= .bool false->Q .ret st) (hexit:∀st,e=true->st.s 0= .slice na ta (An a)->st.s 1= .slice nb tb (An b)->st.s 19=d19->st.s 20= .int .i64 i->Q (.exit 2) st):
  ∀(f j:Nat) st g,l.length=j+f->Du a b l f j=e->st.s 0= .slice na ta (An a)->st.s 1= .slice nb tb (An b)->st.s 19=d19->st.s 20= .int .i64 i->st.s 23= .slice nl t (An l)->st.s 24= .int .i64 (l.length:Int)->st.s 25= .int .i64 (j:Int)->A8 S ns dc114l0 Q st g:=by
 intro f;induction f with
 |zero=>
  intro j st g hf he h0 h1 h19 h20 h23 h24 h25;refine Ae dc114l0.eq_1 ?_;have:¬((j:Int)<l.length):=by omega
  simp only[↓go1,go2,go4,reduceIte,Qh,h24,h25,this];exact hexit _ he.symm h0 h1 h19 h20
 |succ f ih=>
  intro j st g hf he h0 h1 h19 h20 h23 h24 h25;refine Ae dc114l0.eq_1 ?_;unfold Du at he;have hj:j<l.length:=by omega
  have hlt:((j:Int)<l.length):=by omega
  have hj0:=nJ (j:=j);have hw:=wJ (j:=j) (by omega);have hat:(An l)[j]?=some (.agg [.str (Bl l j).1,.int .u8 (Bl l j).2]):=Dm hj;have hq:=prefB_at hpl hj;unfold oneC at he;generalize Bl l j=r at hat hq he;obtain⟨q,k⟩:=r;simp only at hat hq he;have e95:=F95_eq (nl:=na) (t:=[]) (s:=q) la;have ba:=capsP_b (s:=q) ca;have e215:=F215_eq (nl:=nb) (t:=[]) (s:=q) lb cb pb hq ba.1 ba.2;unfold allowsP at e215;generalize FI (BA b q).toNat (BA a q).toNat=hh at he e215;obtain⟨st_s,st_m,st_c⟩:=st;simp only at h0 h1 h19 h20 h23 h24 h25;cases hh with
  |true=>
   rw[if_pos rfl]at he;simp only[↓go1,gB0,reduceIte,Qf,Qh,h0,h1,h23,h24,h25,hlt,hj0,Qe,hat,Aa s95,e95,Aa s215,e215,Af,Ap,Aq,QT,QY,Qc,Qt,Qy,Qk];refine Ao.intro (Aj rfl) ?_;simp only[↓go1,go2,go3,reduceIte,Qf,Qh,h25,hw];exact ih (j+1) _ _ (by omega) he h0 h1 h19 h20 h23 h24 rfl
  |false=>
   rw[if_neg (by simp)]at he;simp only[↓go1,gB0,reduceIte,Qf,Qh,h0,h1,h23,h24,h25,hlt,hj0,Qe,hat,Aa s95,e95,Aa s215,e215,Af,Ap,Aq,QT,QY,Qc,Qt,Qy,Qk];refine Ao.intro (Aj rfl) ?_;simp only[↓go1,go2,go3,reduceIte,Qf,Qh];exact hret _ he.symm rfl
def ok114:(Ac F118).ok Qb 114:=by
 obtain⟨S,hS,hl⟩:=A7 (Ab ok214 (Ab ok95 (Ab ok215 Ad)));have s214:=hl 214 _ rfl;have s95:=hl 95 _ rfl;have s215:=hl 215 _ rfl;clear hl;refine Ay (S:=S) hS fn114 (λds r h=>?_) (λds r h=>?_)
 ·obtain⟨na,ta,a,nb,tb,b,rfl,_⟩:=F118_inv h;simp
 ·obtain⟨na,ta,a,nb,tb,b,rfl,la,lb,pa,pb,ca,cb,rfl⟩:=F118_inv h;have ea:=Fpol_eq (nl:=na) (t:=[]) la pa;have eb:=Fpol_eq (nl:=nb) (t:=[]) lb pb;have halla:=C0 a;have hallb:=C0 b;have huna:=EX a;have hunb:=EX b;unfold dc114 Dv;generalize Cr a=xa at *;generalize Cr b=xb at *;by_cases hxa:xa=0
  ·by_cases hxb:xb=0
   ·subst hxa hxb;have z2:((2:Nat):Int)=2:=rfl;have w1:IntKind.i64.wrap ((0:Int)+1)=1:=w64 (by omega) (by omega);have w2:IntKind.i64.wrap ((1:Int)+1)=2:=w64 (by omega) (by omega);rw[Zg];have ha:a.all (oneC a b)=Du a b a a.length 0:=by rw[Fa _ _ _ _ _ (by omega)];rfl
    have hb:b.all (oneC a b)=Du a b b b.length 0:=by rw[Fa _ _ _ _ _ (by omega)];rfl
    rw[ha,hb];simp only[↓go1,gB2,go4,reduceIte,Qf,Qh,Aa s214,ea,eb,BK,C5,QY,and_self,Qt,Qy,Qj,Qv];refine Ae dc114l1.eq_1 ?_;simp only[↓go1,go2,go4,reduceIte,Qf,Qh,Av,z2,Int.reduceLT,Int.toNat_zero,Int.le_refl,Qg,and_self];refine loop114i (a:=a) (b:=b) (l:=a) (e:=Du a b a a.length 0) s95 s215 la lb pb ca cb la pa (λst h1 h2=>?_) (λst he h0 h1 h19 h20=>?_) a.length 0 _ _ (by omega) rfl rfl rfl rfl rfl rfl rfl rfl
    ·simp only[↓go1,gB3,h1,h2,Zt,Bool.and_false]
    ·simp only[↓go1,gB3,reduceIte,Qf,Qh,h20,he,w1];refine Ae dc114l1.eq_1 ?_;simp only[↓go1,go2,go4,reduceIte,Qf,Qh,h19,h20,Av,z2,Int.reduceLT,Int.toNat_one,Int.reduceLE,Qg,QB,and_self];refine loop114i (a:=a) (b:=b) (l:=b) (e:=Du a b b b.length 0) s95 s215 la lb pb ca cb lb pb (λst h1 h2=>?_) (λst he2 h0 h1 h19 h20=>?_) b.length 0 _ _ (by omega) rfl h0 h1 h19 rfl rfl rfl rfl
     ·simp only[↓go1,gB3,h1,h2,he,Bool.and_false]
     ·simp only[↓go1,gB3,reduceIte,Qf,Qh,h20,he,he2,w2];refine Ae dc114l1.eq_1 ?_;simp only[↓go1,gB3,reduceIte,Qf,Qh,h20,he,he2,Zo]
   ·simp only[↓go1,gB3,reduceIte,Qf,Qh,Aa s214,ea,eb,hxb,hxa]
    try simp
  ·simp only[↓go1,gB3,reduceIte,Qf,Qh,Aa s214,ea,hxa]
   try simp
def DD(l:List Tk)(k:Tk):Option (List Tk)×Int:=
 if FS k.1 k.2.1 k.2.2.2≠0 then(none,FS k.1 k.2.1 k.2.2.2)else if k.2.1=[]then(none,2)else if AR l k.1=true then(none,20)else if AR l k.2.1=false then(none,6)
 else if Dv k.2.2.2 (A2 l (bsE l k.2.1)).2.2.2=false then(none,13)else(some (Es l k),0)
def setD(nl:Bool)(l:List Tk)(o:Option (List Tk)):D:=match o with
 |none=> .agg [.slice nl [] (Aw l)]
 |some l'=> .agg [.slice false [] (Aw l')]
def Ey(l:List Rl):Prop:=l.length<=1000000∧By l∧DM l
open Classical in
def F50:List D->Option D
 |[.agg [.slice nl0 _ xs],.agg [.str n,.str p,.slice nl _ ys]]=>if(Eb xs∧xs.length<=90000∧∀k∈BX xs,Ey k.2.2.2)∧rlsOk nl ys∧Ey (A9 ys)∧n.length<=1000000∧p.length<=1000000
   then some (.tup [setD nl0 (BX xs) (DD (BX xs) (n,p,nl,A9 ys)).1,.int .i64 (DD (BX xs) (n,p,nl,A9 ys)).2])else none
 |_=>none
def ok50:(Ac F50).ok Qb 50:=by
 obtain⟨S,hS,hl⟩:=A7 (Ab ok113 (Ab ok93 (Ab ok114 (Ab ok115 Ad))));have s113:=hl 113 _ rfl;have s93:=hl 93 _ rfl;have s114:=hl 114 _ rfl;have s115:=hl 115 _ rfl;clear hl;refine Ay (S:=S) hS fn50 (λds r h=>?_) (λds r h=>?_)
 ·unfold F50 at h;split at h
  ·simp
  ·cases h
 ·unfold F50 at h;split at h
  ·rename_i nl0 t0 xs n p nl t ys;split at h
   ·rename_i hc;obtain⟨⟨hc,h9,hk⟩,hr,hpo,hn,hp⟩:=hc;obtain⟨l,rfl,hl,e⟩:=DG hc;obtain⟨rs,rfl,hrl,hrn,e2⟩:=FA hr;rw[e,e2]at h;rw[e]at hk;rw[e2]at hpo;rw[AP]at h9;simp only[Qa]at h;subst h;have h113:=F113_eq (n:=n) (p:=p) (nl:=nl) (t:=[]) hrl hpo.2.1 hn hp;have h93n:=F93_eq (nl:=nl0) (t:=[]) (s:=n) hl;have h93p:=F93_eq (nl:=nl0) (t:=[]) (s:=p) hl;have h115:=F115_eq (nl0:=nl0) (t0:=[]) (n:=n) (p:=p) (t:=[]) h9 hrl hrn;unfold dc50 DD;simp only;generalize FS n p rs=e at *;by_cases he:e=0
    ·subst he;by_cases hp0:p=[]
     ·subst hp0;simp only[↓go1,gB0,simprocAttr,Af,Ap,Aq,Qc,Qk,Qi,Qm,and_false,Qn,AX,Be,Aa s113,h113,ne_eq];simp[setD];rfl
     ·cases h1:AR l n with
      |true=>
       rw[h1]at h93n;simp only[↓go1,gB0,simprocAttr,Af,Ap,Aq,Qc,Qk,Qi,Qm,and_false,Qn,AX,Be,Aa s113,h113,Aa s93,h93n,ne_eq,hp0];simp[setD];rfl
      |false=>
       rw[h1]at h93n;cases h2:AR l p with
       |false=>
        rw[h2]at h93p;simp only[↓go1,gB0,simprocAttr,Af,Ap,Aq,Qc,Qk,Qi,Qm,and_false,Qn,AX,Be,Aa s113,h113,Aa s93,h93n,h93p,ne_eq,hp0];simp[setD];rfl
       |true=>
        have hi:bsE l p<l.length:=by
         unfold AR at h2;rw[Q_,decide_eq_true_iff]at h2;exact h2.1
        rw[h2]at h93p;generalize bsE l p=i at h93p hi;have hi0:(0:Int)<=(i:Int):=by omega
        have hat:=Eg (l:=l) (j:=i) hi;have hm:A2 l i∈l:=by simp[A2,Qd hi]
        have hlk:=hk _ hm;generalize A2 l i=k at hat hlk;obtain⟨n2,p2,nl2,rs2⟩:=k;replace hat:(Aw l)[i]?=some (.agg [.str n2,.str p2,.slice nl2 [] (An rs2)]):=hat;have h114:=F118_eq (na:=nl) (nb:=nl2) (ta:=[]) (tb:=[]) hrl hlk.1 hpo.2.1 hlk.2.1 hpo.2.2 hlk.2.2;simp only at h114;cases h3:Dv rs rs2 with
        |false=>
         rw[h3]at h114;simp only[↓go1,gB0,simprocAttr,Af,Ap,Aq,Qc,Qj,Qv,Qp,Qi,Qm,and_false,Qn,Aa s113,h113,Aa s93,h93n,h93p,ne_eq,hp0,hi0,hat,Qe,Aa s114,h114];refine Ao.intro (Aj rfl) ?_;simp only[↓go1,gB2,go4,simprocAttr,Af,Ap,Aq,Ql,Qq,Qg,and_self,Qc,Qk,Qi,Qm,Qn,AX,Be,hp0];simp[setD];rfl
        |true=>
         rw[h3]at h114;simp only[↓go1,gB0,simprocAttr,Af,Ap,Aq,Qc,Qj,Qv,Qp,Qi,Qm,and_false,Qn,Aa s113,h113,Aa s93,h93n,h93p,ne_eq,hp0,hi0,hat,Qe,Aa s114,h114];refine Ao.intro (Aj rfl) ?_;simp only[↓go1,gB0,simprocAttr,Af,Ap,Aq,Qc,Qk,Qi,Qm,and_false,Qn,AX,Be,Aa s115,h115,hp0];simp[setD];rfl
    ·simp only[↓go1,gB0,simprocAttr,Af,Ap,Aq,Qc,Qk,Qi,Qm,and_false,Qn,AX,Be,Aa s113,h113,ne_eq,he];simp[setD];rfl
   ·cases h
  ·cases h
def loop129{S:Summs}{l:List Tk}{nl0:Bool}{t0:Id}{Q:Ex->St->Prop}(hb:l.length<=1000000)
  (hexit:∀st nl t,nl=decide (l.length=0)->st.s 3= .slice nl t (l.map λk=> .str k.1)->Q (.exit 0) st):
  ∀(f j:Nat) nl t st g,l.length=j+f->nl=decide (j=0)->Gw st.m st.c 9 nl t->st.s 3= .slice nl t ((l.take j).map λk=> .str k.1)->st.s 7= .slice nl0 t0 (Aw l)->st.s 8= .int .i64 (l.length:Int)->st.s 9= .int .i64 (j:Int)->A8 S [] dc129l0 Q st g:=by
 intro f;induction f with
 |zero=>
  intro j nl t st g hf hn hG h3 h7 h8 h9;refine Ae dc129l0.eq_1 ?_;have:¬((j:Int)<l.length):=by omega
  simp only[↓go1,go2,go4,reduceIte,Qh,h8,h9,this];refine hexit _ nl t (by rw[hn,show j=l.length by omega]) ?_;rw[show j=l.length by omega,List.take_length]at h3;exact h3
 |succ f ih=>
  intro j nl t st g hf hn hG h3 h7 h8 h9;refine Ae dc129l0.eq_1 ?_;have hj:j<l.length:=by omega
  have hlt:((j:Int)<l.length):=by omega
  have hj0:=nJ (j:=j);have hw:=wJ (j:=j) (by omega);have hat:=Eg (l:=l) (j:=j) hj;have htk:(l.take (j+1)).map (λk:Tk=>D.str k.1)=(l.take j).map (λk:Tk=>D.str k.1)++[.str (A2 l j).1]:=by
   rw[Q7 hj,Zq];simp[A2,Qd hj]
  have hal:((l.take j).map (λk:Tk=>D.str k.1)).length=j:=by simp;omega
  have hnil:nl=true->(l.take j).map (λk:Tk=>D.str k.1)=[]:=by
   rw[hn];intro h;have:j=0:=by simpa using h
   subst this;rfl
  generalize (l.take j).map (λk:Tk=>D.str k.1)=acc at h3 htk hal hnil;generalize A2 l j=k at hat htk;obtain⟨n,p,knl,rs⟩:=k;replace hat:(Aw l)[j]?=some (.agg [.str n,.str p,.slice knl [] (An rs)]):=hat;obtain⟨st_s,st_m,st_c⟩:=st;simp only at h3 h7 h8 h9 hG htk;simp only[↓go1,gB0,simprocAttr,h3,h7,h8,h9,hlt,hj0,Qe,hat,Af,Ap,Aq,Qc,Qt,Qy,Qk,and_false];refine Ao.intro ⟨by omega,rfl,?_⟩ ?_
  ·first
    |exact(((hG.put (by omega)).put (by omega)).more (by omega)).grow (by omega)
    |exact(Gw.put (Gw.put hG (by omega)) (by omega)).grow (by omega)
  rw[BG hnil,←htk];simp only[↓go1,gB3,simprocAttr,h9,hw];refine ih (j+1) false _ _ _ (by omega) (by simp) ?_ rfl h7 h8 rfl;exact Gw.new (by simp only;omega)
open Classical in
def F129:List D->Option D
 |[.agg [.slice _ _ xs]]=>if Eb xs then some (.slice (decide ((BX xs).length=0)) [] ((BX xs).map λk=> .str k.1))else none
 |_=>none
def ok129:(Ac F129).ok Qb 129:=by
 refine Ay (S:=λ_=>none) AL fn129 (λds r h=>?_) (λds r h=>?_)
 ·unfold F129 at h;split at h
  ·simp
  ·cases h
 ·unfold F129 at h;split at h
  ·rename_i nl t xs;split at h
   ·rename_i hc;obtain⟨l,rfl,hl,e⟩:=DG hc;rw[e]at h;simp only[Qa]at h;subst h;unfold dc129;simp only[↓go1,gB2,simprocAttr,AP,Af,Ql,Qq,Qg,and_self];refine loop129 (l:=l) (nl0:=nl) (t0:=t) hl (λst nl' t' h1 h2=>?_) l.length 0 true [] _ _ (by omega) (by simp) (.inl rfl) rfl rfl rfl rfl;simp only[↓go1,gB3,simprocAttr,h2];rw[h1]
    first|done|rfl|exact⟨rfl,rfl⟩
   ·cases h
  ·cases h
end Go.Vd
namespace Go.Vd
open Go.Proofs
def dc158:DC:=(sr [ob 2 0,al 4 [zs,zi,zb],ci 5 0] (sr [lk 7 1 2,mm 8 1,c2 9 103 7 8,mm 6 9] (.seq (sr [mm 10 6,bi 11 .lss 10 0] (cd 11 (sr [oo 12 (.build [zs,zi,zb] []),st 3 4 12,ci 5 14] .ret) .skip)) (sr [ff 13 0 2,ll 14 13,mm 15 6,ii 16 3 14 15,lk 17 3 16,st 3 4 17,ci 5 0] .ret))))
def fn158:Fn Qb 158 18 dc158 [.cell (some 3) 4,.t 5]:=Am func158
def dc344:DC:=(sr [cb 2 false] (sr [mm 3 0,cc 4 259 [(.t 3),(.c (.int .i64 1)),(.c (.int .i64 999))],nt 5 4,mm 2 5] .ret))
def fn344:Fn Qb 344 6 dc344 [.t 2]:=Am func344
def dc259:DC:=(sr [cb 6 false] (sr [mm 7 0,mm 8 1,bt 9 .geq 7 8,mm 10 9,gm 11 0 3 true,gm 12 2 3 true,gt 13 .leq 11 12 3 true,pa 14 10 13,mm 6 14] .ret))
def fn259:Fn Qb 259 15 dc259 [.t 6]:=Am func259
end Go.Vd
namespace Go.Vd
open Go.Proofs Go.RowKit
def F259:List D->Option D
 |[.int .i64 n,.int .i64 lo,.int .i64 hi]=>some (.bool (decide (lo<=n∧n<=hi)))
 |_=>none
def ok259:(Ac F259).ok Qb 259:=by
 refine Ay (S:=λ_=>none) AL fn259 (λds r h=>?_) (λds r h=>?_)
 ·unfold F259 at h;split at h
  ·simp
  ·cases h
 ·unfold F259 at h;split at h
  ·rename_i n lo hi;simp only[Qa]at h;subst h;unfold dc259;simp only[↓go1,go2,simprocAttr]
   repeat' (first|(refine ifQ.intro (λh=>?_) (λh=>?_)<;>try (exfalso;omega))|(simp only[↓go1,gB3,simprocAttr,h,and_self,false_and]))
   all_goals (simp_all<;>omega)
  ·cases h
def K344:D->D->Option D
 | .junk,.int .i64 x=>some (.bool (!decide (1<=x∧x<=999)))
 |_,_=>none
def clo344:(cloS K344).ok Qb 344:=by
 obtain⟨S,hS,hl⟩:=A7 (Ab ok259 Ad);have s259:=hl 259 _ rfl;clear hl;refine clo_ok (S:=S) hS fn344 (λx caps m fr c d hcap hF hfr hl=>⟨by omega,?_⟩);unfold K344 at hF;split at hF
 ·rename_i n;simp only[Qa]at hF;subst hF;have h259:∀n lo hi,F259 [.int .i64 n,.int .i64 lo,.int .i64 hi]=some (.bool (decide (lo<=n∧n<=hi))):=λ_ _ _=>rfl
  unfold dc344;simp only[↓go1,gB3,simprocAttr,Aa s259,h259]
  try exact λi o y h=>h
 ·cases hF
def idx388:(EO 344 none K344).ok Qb 388:=idx_ok (by omega) fn388 rfl clo344
def cn343:(cnS 344 none K344).ok Qb 343:=cn_ok (by omega) fn343 idx388
def mtsD_head(l:List Mt):D.headSz (Ar l) 3=3:=by cases l<;>rfl
def mtsOk(nl:Bool)(xs:List D):Prop:=xs=Ar (Ca xs)∧xs.length<=1000000∧(nl=true->xs=[])
def mtsOk_mk{nl:Bool}{l:List Mt}(hl:l.length<=1000000)(hn:nl=true->l=[]):mtsOk nl (Ar l):=⟨by rw[Bh],by rw[Ax];exact hl,λh=>by rw[hn h];rfl⟩
def mtsOk_get{nl:Bool}{xs:List D}(h:mtsOk nl xs):∃l:List Mt,xs=Ar l∧l.length<=1000000∧(nl=true->l=[])∧Ca xs=l:=by
 refine⟨Ca xs,h.1,?_,λhn=>?_,rfl⟩
 ·have:=h.2.1;rw[h.1,Ax]at this;exact this
 ·rw[h.2.2 hn];rfl
def firstT_lt(bs:List Bool):Bb bs<bs.length:=by
 unfold Bb;cases h:bs.findIdx? id with
 |none=>simp only;omega
 |some k=>
  rw[Q5]at h;obtain⟨hk,_⟩:=h;simp only;omega
def findE_lt(l:List Mt)(p:Bs):BW l p<l.length:=by
 have:=firstT_lt (l.map λm=>decide (m.1=p));rw[Qu]at this;exact this
open Classical in
def F158:List D->Option D
 |[.agg [.slice _ _ xs],.str p]=>if xs=Ar (Ca xs)∧xs.length<=1000000 then some (.tup (if BW (Ca xs) p<0 then [mtD ([],0,false),.int .i64 14]else [mtD (Bj (Ca xs) (BW (Ca xs) p).toNat),.int .i64 0]))else none
 |_=>none
def ok158:(Ac F158).ok Qb 158:=by
 obtain⟨S,hS,hl⟩:=A7 (Ab ok103 Ad);have s103:=hl 103 _ rfl;clear hl;refine Ay (S:=S) hS fn158 (λds r h=>?_) (λds r h=>?_)
 ·unfold F158 at h;split at h
  ·simp
  ·cases h
 ·unfold F158 at h;split at h
  ·rename_i nl t xs p;split at h
   ·rename_i hc;obtain⟨hx,hl⟩:=hc;simp only[Qa]at h;subst h;generalize Ca xs=l at hx;subst hx;rw[Ax]at hl;have h103:=F103_eq (nl:=nl) (t:=[]) (p:=p) hl;have hlt:=findE_lt l p;unfold dc158;generalize BW l p=i at h103 hlt;by_cases hi:i<0
    ·simp only[↓go1,gB0,simprocAttr,Af,Ap,Aq,Qc,Qk,Qi,Qm,QP,and_false,AX,Be,BK,Aa s103,h103,hi];simp[mtD];rfl
    ·obtain⟨j,rfl⟩:=QH (show 0<=i by omega);have hj:j<l.length:=by omega
     have hj0:=nJ (j:=j);have hat:(Ar l)[j]?=some (.agg [.str (Bj l j).1,.int .i64 (Bj l j).2.1,.bool (Bj l j).2.2]):=mtsD_at hj;simp only[↓go1,gB0,simprocAttr,Af,Ap,Aq,Qc,Qt,Qy,Qk,Qi,Qm,QP,and_false,AX,Be,Aa s103,h103,hi,hj0,hat,Qe];simp[mtD];rfl
   ·cases h
  ·cases h
end Go.Vd
namespace Go.Vd
open Go.Proofs
def dc110:DC:=(sr [ob 1 0,ci 2 0] (sr [ff 4 0 1,ll 5 4,c1 6 211 5,mm 3 6] (.seq (sr [mm 7 3,bi 8 .neq 7 0] (cd 8 (sr [mm 9 3,mm 2 9] .ret) .skip)) (.seq (sr [ff 10 1 1,ff 11 0 10,ll 12 11,bi 13 .lss 12 1,mm 14 13,gf 15 1 1 4 false,gf 16 0 15 4 false,gl 17 16 4 false,gi 18 .gtr 17 6 4 false,po 19 14 18] (cd 19 (sr [ci 2 2] .ret) .skip)) (sr [ci 2 0] .ret)))))
def fn110:Fn Qb 110 20 dc110 [.t 2]:=Am func110
def dc74l0:DC:=(.seq (sr [mm 6 5,mm 7 0,nn 8 false 7,bt 9 .lss 6 8] (cd 9 .skip (.exit 0))) (.seq (.block 1 (sr [mm 12 0,mm 13 5,ii 14 3 12 13,ff 15 0 14,ll 16 15,mm 17 1,bt 18 .eql 16 17] (cd 18 (sr [mm 19 5,mm 4 19] .ret) .skip))) (.row [mm 10 5,bi 11 .add 10 1,mm 5 11])))
def dc74:DC:=(sr [ci 4 0] (.seq (sr [ci 5 0] (.block 0 (.loop dc74l0))) (sr [oo 4 (.mv (.c (.int .i64 (-1))))] .ret)))
def fn74:Fn Qb 74 20 dc74 [.t 4]:=Am func74
def dc116:DC:=(sr [ob 1 0,ci 2 0] (.seq (sr [ff 4 0 1,ll 5 4,c1 6 217 5,nt 7 6] (cd 7 (sr [ci 2 2] .ret) .skip)) (sr [ff 8 2 1,ll 9 8,c1 10 218 9,mm 3 10] (.seq (sr [mm 11 3,bi 12 .neq 11 0] (cd 12 (sr [mm 13 3,mm 2 13] .ret) .skip)) (.seq (sr [ff 14 1 1,ll 15 14,bs 16 .eql 15 [],mm 17 16,gf 18 0 1 3 true,gl 19 18 3 true,gs 20 .eql 19 [114,111,111,116] 3 true,pa 21 17 20,mm 22 21,gf 23 1 1 8 false,gl 24 23 8 false,gc 25 217 [(.t 24)] 8 false,gm 26 25 8 false,gf 27 1 1 12 true,gl 28 27 12 true,gf 29 0 1 12 true,gl 30 29 12 true,gt 31 .neq 28 30 12 true,og 32 (.pick (.t 26) (.t 31) (.c (.bool false))) 8 false,po 33 22 32] (cd 33 (sr [ci 2 0] .ret) .skip)) (sr [ci 2 2] .ret))))))
def fn116:Fn Qb 116 34 dc116 [.t 2]:=Am func116
def dc117l0:DC:=(.seq (sr [mm 6 5,mm 7 0,nn 8 false 7,bt 9 .lss 6 8] (cd 9 .skip (.exit 0))) (.seq (.block 1 (sr [mm 12 0,mm 13 5,ii 14 3 12 13,ff 15 0 14,ll 16 15,mm 17 1,bt 18 .eql 16 17] (cd 18 (sr [mm 19 5,mm 4 19] .ret) .skip))) (.row [mm 10 5,bi 11 .add 10 1,mm 5 11])))
def dc117:DC:=(sr [ci 4 0] (.seq (sr [ci 5 0] (.block 0 (.loop dc117l0))) (sr [oo 4 (.mv (.c (.int .i64 (-1))))] .ret)))
def fn117:Fn Qb 117 20 dc117 [.t 4]:=Am func117
end Go.Vd
namespace Go.Vd
open Go.Proofs Go.RowKit
def F110:List D->Option D
 |[.agg [.str p,.int .i64 q,.bool b]]=>if p.length<=1000000 then some (.int .i64 (CW p q))else none
 |_=>none
def ok110:(Ac F110).ok Qb 110:=by
 obtain⟨S,hS,hl⟩:=A7 (Ab ok211 Ad);have s211:=hl 211 _ rfl;clear hl;refine Ay (S:=S) hS fn110 (λds r h=>?_) (λds r h=>?_)
 ·unfold F110 at h;split at h
  ·simp
  ·cases h
 ·unfold F110 at h;split at h
  ·rename_i p q b;split at h
   ·rename_i hc;simp only[Qa]at h;subst h;unfold dc110;have h211:F211 [.str p]=some (.int .i64 (AW p)):=if_pos hc;unfold CW;generalize AW p=e at *;simp only[↓go1,gB2,go4,simprocAttr,Af,Ql,Qq,Qg,and_self,Aa s211,h211]
    repeat' (first|(refine ifQ.intro (λh=>?_) (λh=>?_)<;>try (exfalso;omega))|(simp only[↓go1,gB0,simprocAttr,h,Af]))
    all_goals (first|rfl|(rw[D.int.injEq];refine⟨rfl,?_⟩;(repeat' split)<;>first|rfl|(exfalso;simp_all;done)|(exfalso;simp_all;omega)))
   ·cases h
  ·cases h
def E7{bs:List Bool}{j:Nat}(h:bs[j]?=some true)(hall:∀i,i<j->bs[i]?=some false):Bb bs=j:=by
 have hj:j<bs.length:=(Qs.1 h).1;have:bs.findIdx? id=some j:=by
  rw[Q5];refine⟨hj,by rw[Qd hj]at h;simpa using h,λi hi=>?_⟩;have:=hall i hi;rw[Qd (by omega)]at this;simp[Qa]at this;simp[this]
 simp only[Bb,this]
def firstT_none{bs:List Bool}(hall:∀i,i<bs.length->bs[i]?=some false):Bb bs=-1:=by
 have:bs.findIdx? id=none:=List.findIdx?_eq_none_iff.2 λb hb'=>by
  obtain⟨i,hi,rfl⟩:=Zh hb';have:=hall i hi;rw[Qd hi]at this;simpa using Zf this
 simp only[Bb,this]
def loop74{S:Summs}{ns:Id}{l:List Mt}{p:Bs}{nl:Bool}{t:Id}{Q:Ex->St->Prop}(hb:l.length<=1000000)
  (hret:∀st,st.s 4= .int .i64 (Bb (l.map λm=>decide (m.1=p)))->Q .ret st) (hexit:∀st,Bb (l.map λm=>decide (m.1=p))=-1->Q (.exit 0) st):
  ∀(f j:Nat) st g,l.length=j+f->(∀i,i<j->(l.map λm=>decide (m.1=p))[i]?=some false)->st.s 0= .slice nl t (Ar l)->st.s 1= .str p->st.s 5= .int .i64 (j:Int)->A8 S ns dc74l0 Q st g:=by
 intro f;induction f with
 |zero=>
  intro j st g hf hall h0 h1 h5;refine Ae dc74l0.eq_1 ?_;have:¬((j:Int)<l.length):=by omega
  simp only[↓go1,go2,go4,simprocAttr,h0,h5,this,Ax];exact hexit _ (firstT_none (by rw[Qu];intro i hi;exact hall i (by omega)))
 |succ f ih=>
  intro j st g hf hall h0 h1 h5;refine Ae dc74l0.eq_1 ?_;have hj:j<l.length:=by omega
  have hlt:((j:Int)<l.length):=by omega
  have hj0:=nJ (j:=j);have hw:=wJ (j:=j) (by omega);have hat:(Ar l)[j]?=some (.agg [.str (Bj l j).1,.int .i64 (Bj l j).2.1,.bool (Bj l j).2.2]):=mtsD_at hj;have hbj:(l.map λm=>decide (m.1=p))[j]?=some (decide ((Bj l j).1=p)):=by simp[Bj,Qd hj]
  have hm:Bj l j∈l:=by simp[Bj,Qd hj]
  generalize Bj l j=m at hat hbj;obtain⟨st_s,st_m,st_c⟩:=st;simp only at h0 h1 h5;by_cases hq:m.1=p
  ·have hbt:=hbj;simp only[hq,decide_true]at hbt;simp only[↓go1,gB2,go4,simprocAttr,h0,h1,h5,hlt,hj0,Qe,hat,Ax,Ql,Qj,Qp,hq];exact hret _ (by rw[E7 hbt hall];rfl)
  ·have hbt:=hbj;simp only[hq,decide_false]at hbt;simp only[↓go1,gB2,go4,simprocAttr,h0,h1,h5,hlt,hj0,hw,Qe,hat,Ax,Ql,Qj,Qp,hq];refine ih (j+1) _ _ (by omega) (λi hi=>?_) h0 h1 rfl;rcases Q4 (Zb hi)with hi|rfl
   ·exact hall i hi
   ·exact hbt
open Classical in
def F74:List D->Option D
 |[.slice _ _ xs,.str p]=>if xs=Ar (Ca xs)∧xs.length<=1000000 then some (.int .i64 (BW (Ca xs) p))else none
 |_=>none
def ok74:(Ac F74).ok Qb 74:=by
 refine Ay (S:=λ_=>none) AL fn74 (λds r h=>?_) (λds r h=>?_)
 ·unfold F74 at h;split at h
  ·simp
  ·cases h
 ·unfold F74 at h;split at h
  ·rename_i nl t xs p;split at h
   ·rename_i hc;obtain⟨hx,hl⟩:=hc;simp only[Qa]at h;subst h;generalize Ca xs=l at hx;subst hx;rw[Ax]at hl;unfold dc74 BW;simp only[↓go1,go2,Qh];refine loop74 (l:=l) (p:=p) (nl:=nl) (t:=t) hl (λst h1=>?_) (λst h1=>?_) l.length 0 _ _ (by omega) (by simp) rfl rfl rfl
    ·simp only[↓go1,gB3,h1]
    ·simp only[↓go1,gB3,reduceIte,Qh,h1]
   ·cases h
  ·cases h
def Ci(l:List Mt)(p:Bs):Int:=Bb (l.map λm=>Cc p m.1)
def loop117{S:Summs}{ns:Id}{l:List Tk}{p:Bs}{nl:Bool}{t:Id}{Q:Ex->St->Prop}(hb:l.length<=1000000)
  (hret:∀st,st.s 4= .int .i64 (Bb (l.map λm=>decide (m.1=p)))->Q .ret st) (hexit:∀st,Bb (l.map λm=>decide (m.1=p))=-1->Q (.exit 0) st):
  ∀(f j:Nat) st g,l.length=j+f->(∀i,i<j->(l.map λm=>decide (m.1=p))[i]?=some false)->st.s 0= .slice nl t (Aw l)->st.s 1= .str p->st.s 5= .int .i64 (j:Int)->A8 S ns dc117l0 Q st g:=by
 intro f;induction f with
 |zero=>
  intro j st g hf hall h0 h1 h5;refine Ae dc117l0.eq_1 ?_;have:¬((j:Int)<l.length):=by omega
  simp only[↓go1,go2,go4,simprocAttr,h0,h5,this,AP];exact hexit _ (firstT_none (by rw[Qu];intro i hi;exact hall i (by omega)))
 |succ f ih=>
  intro j st g hf hall h0 h1 h5;refine Ae dc117l0.eq_1 ?_;have hj:j<l.length:=by omega
  have hlt:((j:Int)<l.length):=by omega
  have hj0:=nJ (j:=j);have hw:=wJ (j:=j) (by omega);have hat:(Aw l)[j]?=some (.agg [.str (A2 l j).1,.str (A2 l j).2.1,.slice (A2 l j).2.2.1 [] (An (A2 l j).2.2.2)]):=Eg hj;have hbj:(l.map λm=>decide (m.1=p))[j]?=some (decide ((A2 l j).1=p)):=by simp[A2,Qd hj]
  have hm:A2 l j∈l:=by simp[A2,Qd hj]
  generalize A2 l j=m at hat hbj;obtain⟨st_s,st_m,st_c⟩:=st;simp only at h0 h1 h5;by_cases hq:m.1=p
  ·have hbt:=hbj;simp only[hq,decide_true]at hbt;simp only[↓go1,gB2,go4,simprocAttr,h0,h1,h5,hlt,hj0,Qe,hat,AP,Ql,Qj,Qp,hq];exact hret _ (by rw[E7 hbt hall];rfl)
  ·have hbt:=hbj;simp only[hq,decide_false]at hbt;simp only[↓go1,gB2,go4,simprocAttr,h0,h1,h5,hlt,hj0,hw,Qe,hat,AP,Ql,Qj,Qp,hq];refine ih (j+1) _ _ (by omega) (λi hi=>?_) h0 h1 rfl;rcases Q4 (Zb hi)with hi|rfl
   ·exact hall i hi
   ·exact hbt
def Db(l:List Tk)(p:Bs):Int:=Bb (l.map λm=>decide (m.1=p))
open Classical in
def F117:List D->Option D
 |[.slice _ _ xs,.str p]=>if xs=Aw (BX xs)∧xs.length<=1000000 then some (.int .i64 (Db (BX xs) p))else none
 |_=>none
def ok117:(Ac F117).ok Qb 117:=by
 refine Ay (S:=λ_=>none) AL fn117 (λds r h=>?_) (λds r h=>?_)
 ·unfold F117 at h;split at h
  ·simp
  ·cases h
 ·unfold F117 at h;split at h
  ·rename_i nl t xs p;split at h
   ·rename_i hc;obtain⟨hx,hl⟩:=hc;simp only[Qa]at h;subst h;generalize BX xs=l at hx;subst hx;rw[AP]at hl;unfold dc117 Db;simp only[↓go1,go2,Qh];refine loop117 (l:=l) (p:=p) (nl:=nl) (t:=t) hl (λst h1=>?_) (λst h1=>?_) l.length 0 _ _ (by omega) (by simp) rfl rfl rfl
    ·simp only[↓go1,gB3,h1]
    ·simp only[↓go1,gB3,reduceIte,Qh,h1]
   ·cases h
  ·cases h
def ok116:(Ac F113).ok Qb 116:=by
 obtain⟨S,hS,hl⟩:=A7 (Ab ok217 (Ab ok218 Ad));have s217:=hl 217 _ rfl;have s218:=hl 218 _ rfl;clear hl;refine Ay (S:=S) hS fn116 (λds r h=>?_) (λds r h=>?_)
 ·unfold F113 at h;split at h
  ·simp
  ·cases h
 ·unfold F113 at h;split at h
  ·rename_i n p nl t xs;split at h
   ·rename_i hc;obtain⟨⟨hx,hl,hp⟩,hn,hpp⟩:=hc;simp only[Qa]at h;subst h;generalize A9 xs=l at hx hp;subst hx;rw[Av]at hl;have h217n:F217 [.str n]=some (.bool (BD n)):=rfl;have h217p:F217 [.str p]=some (.bool (BD p)):=rfl;have h218:=Fpol_eq (nl:=nl) (t:=[]) hl hp;have hu:=EX l;have hcl:=C0 l;unfold dc116 FS;generalize Cr l=e at *;generalize BD p=bp at *;generalize BD n=bn at *;cases bn with
    |false=>simp only[↓go1,gB2,go4,simprocAttr,Af,Ql,Qq,Qg,and_self,Aa s217,h217n]
    |true=>
     simp only[↓go1,gB0,simprocAttr,Af,Aa s217,h217n,Aa s218,h218]
     repeat' (first|(refine ifQ.intro (λh=>?_) (λh=>?_)<;>try (exfalso;omega))|(simp only[↓go1,gB0,simprocAttr,h,Af,false_and,and_false,Aa s217,h217p]))
     all_goals (try simp_all)
   ·cases h
  ·cases h
end Go.Vd
namespace Go.Vd
open Go.Proofs
def dc119l0:DC:=(.seq (.seq (.drawn [mm 6 5,mm 7 0,nn 8 false 7,bt 9 .lss 6 8,mm 10 9,gm 11 0 4 true,gm 12 5 4 true,og 13 (.iaddr 3 (.t 11) (.t 12)) 4 true,gf 14 0 13 4 true,gl 15 14 4 true,gf 16 0 3 4 true,gl 17 16 4 true,gt 18 .lss 15 17 4 true,pa 19 10 18] []) (cd 19 .skip (.exit 0))) (.block 1 (.row [mm 20 5,bi 21 .add 20 1,mm 5 21])))
def dc119:DC:=(sr [ob 3 1,oo 4 (.mv (.c (.slice true [] [])))] (sr [ci 5 0] (.seq (.block 0 (.loop dc119l0)) (.seq (.drawn [oo 22 (.bslice 134 3 []),mm 23 0,mm 24 5,oo 25 (.cutl 3 (.t 23) none (some (.t 24))),ap 26 134 3 56 22 25,lk 27 3 3,bl 28 134 3 27,ap 29 134 3 56 26 28,mm 30 0,mm 31 5,oo 32 (.cutl 3 (.t 30) (some (.t 31)) none),ap 33 134 3 56 29 32,mm 4 33] [(0,5),(4,5),(4,6),(6,4)]) .ret))))
def fn119:Fn Qb 119 34 dc119 [.t 4]:=Am func119
def dc52:DC:=(sr [ob 3 1,oo 4 (.mv (.c (.slice true [] []))),ci 5 0] (sr [lk 8 3 3,c1 9 116 8,mm 6 9] (.seq (sr [mm 10 6,bi 11 .neq 10 0] (cd 11 (sr [mm 12 0,mm 13 6,mm 4 12,mm 5 13] .ret) .skip)) (.seq (sr [ff 14 1 3,ll 15 14,bs 16 .eql 15 []] (cd 16 (sr [mm 17 0,mm 4 17,ci 5 2] .ret) .skip)) (.seq (sr [mm 18 0,ff 19 0 3,ll 20 19,c2 21 117 18 20,bi 22 .geq 21 0] (cd 22 (sr [mm 23 0,mm 4 23,ci 5 20] .ret) .skip)) (sr [mm 24 0,ff 25 1 3,ll 26 25,c2 27 117 24 26,mm 7 27] (.seq (sr [mm 28 7,bi 29 .lss 28 0] (cd 29 (sr [mm 30 0,mm 4 30,ci 5 6] .ret) .skip)) (.seq (.seq (.drawn [ff 31 2 3,ll 32 31,mm 33 0,mm 34 7,ii 35 3 33 34,ff 36 2 35,ll 37 36,c2 38 118 32 37,nt 39 38] []) (cd 39 (sr [mm 40 0,mm 4 40,ci 5 13] .ret) .skip)) (sr [mm 41 0,lk 42 3 3,c2 43 119 41 42,mm 4 43,ci 5 0] .ret)))))))))
def fn52:Fn Qb 52 44 dc52 [.t 4,.t 5]:=Am func52
def dc49:DC:=(sr [oo 0 (.mv (.c (.slice true [] [])))] (sr [oo 1 (.build [zs,zu] [(1,1,(.c (.int .u8 63)))]),bl 2 191 2 1,oo 3 (.build [zs,zs,zn] [(0,1,(.c (.str [114,111,111,116]))),(2,1,(.t 2))]),bl 4 134 3 3,mm 0 4] .ret))
def fn49:Fn Qb 49 5 dc49 [.t 0]:=Am func49
end Go.Vd
namespace Go.Vd
open Go.Proofs Go.RowKit
def F49:List D->Option D
 |[]=>some (.slice false [] (Aw [firstTk]))
 |_=>none
def ok49:(Ac F49).ok Qb 49:=by
 refine Ay (S:=λ_=>none) AL fn49 (λds r h=>?_) (λds r h=>?_)
 ·unfold F49 at h;split at h
  ·simp
  ·cases h
 ·unfold F49 at h;split at h
  ·simp only[Qa]at h;subst h;unfold dc49;simp only[↓go1,gB2,go4,simprocAttr,and_self,Qt,Qy,Qj,Qv,Qm,Qn,BK,C5,QK,QR,QS,Aw,tkD,firstTk,An,rlD,Ze,QR]
  ·cases h
end Go.Vd
namespace Go.Vd
open Go.Proofs
def dc107:DC:=(sr [mm 5 0,nn 6 false 5,mm 4 6] (.row [mm 7 0,mm 8 4,mm 9 4,oo 10 (.conv .u64 (.t 9)),c1 11 209 10,mm 12 1,cc 13 208 [(.t 7),(.c (.int .i64 0)),(.t 8),(.t 11),(.t 12)]]))
def fn107:Fn Qb 107 14 dc107 []:=Am func107
def dc208l0:DC:=(.block 1 (sr [mm 21 2,mm 22 1,bt 23 .sub 21 22,mm 12 23] (.seq (sr [mm 24 12,bi 25 .leq 24 12] (cd 25 (sr [mm 26 0,mm 27 1,mm 28 2,mm 29 4,cc 30 302 [(.t 26),(.t 27),(.t 28),(.t 29)]] .ret) .skip)) (.seq (sr [mm 31 3,bi 32 .eql 31 0] (cd 32 (sr [mm 33 0,mm 34 1,mm 35 2,mm 36 4,cc 37 303 [(.t 33),(.t 34),(.t 35),(.t 36)]] .ret) .skip)) (.seq (sr [mm 38 10,nt 39 38] (cd 39 (sr [mm 40 0,mm 41 1,mm 42 2,mm 43 4,cc 44 304 [(.t 40),(.t 41),(.t 42),(.t 43)]] (.row [mm 45 3,bi 46 .sub 45 1,mm 3 46])) .skip)) (sr [mm 48 0,mm 49 1,mm 50 2,mm 51 4,cc 52 305 [(.t 48),(.t 49),(.t 50),(.t 51)],mm 47 52,xx 53 0 47,xx 54 1 47,mm 13 53,mm 14 54] (.seq (sr [mm 55 14,bi 56 .eql 55 2] (cd 56 (sr [mm 57 0,mm 58 1,mm 59 2,mm 60 4,cc 61 306 [(.t 57),(.t 58),(.t 59),(.t 60)]] (sr [mm 62 2,bi 63 .sub 62 1,mm 64 13,mm 65 1,bt 66 .sub 64 65,bt 67 .sub 63 66,mm 13 67] (.row [ci 14 1]))) .skip)) (.seq (sr [mm 68 10,mm 69 68,gm 70 11 1 true,pa 71 69 70,mm 72 71,gm 73 14 4 true,gi 74 .eql 73 1 4 true,pa 75 72 74] (cd 75 (sr [mm 76 0,mm 77 1,mm 78 2,mm 79 4,cc 80 307 [(.t 76),(.t 77),(.t 78),(.t 79)]] (cd 80 .ret .skip)) .skip)) (.seq (.seq (.drawn [mm 81 1,bi 82 .gtr 81 0,mm 83 82,gm 84 4 2 true,gm 85 0 2 true,gm 86 1 2 true,gi 87 .sub 86 1 2 true,og 88 (.iaddr 3 (.t 85) (.t 87)) 2 true,og 89 (.load (some 3) (.t 88)) 2 true,gm 90 0 2 true,gm 91 13 2 true,og 92 (.iaddr 3 (.t 90) (.t 91)) 2 true,og 93 (.load (some 3) (.t 92)) 2 true,og 94 (.call (.t 84) [(.t 89),(.t 93)]) 2 true,gi 95 .lss 94 0 2 true,og 96 (.un .not (.t 95)) 2 true,pa 97 83 96] []) (cd 97 (sr [mm 98 0,mm 99 1,mm 100 2,mm 101 13,mm 102 4,cc 103 308 [(.t 98),(.t 99),(.t 100),(.t 101),(.t 102)],mm 15 103] (sr [mm 104 15,mm 1 104] (.exit 1))) .skip)) (sr [mm 106 0,mm 107 1,mm 108 2,mm 109 13,mm 110 4,cc 111 309 [(.t 106),(.t 107),(.t 108),(.t 109),(.t 110)],mm 105 111,xx 112 0 105,xx 113 1 105,mm 16 112,mm 17 113] (sr [mm 114 17,mm 11 114] (sr [mm 115 16,mm 116 1,bt 117 .sub 115 116,mm 118 2,mm 119 16,bt 120 .sub 118 119,mm 18 117,mm 19 120] (sr [mm 121 12,bi 122 .quo 121 8,mm 20 122] (sr [mm 123 18,mm 124 19,bt 125 .lss 123 124] (cd 125 (sr [mm 126 18,mm 127 20,bt 128 .geq 126 127,mm 10 128] (sr [mm 129 0,mm 130 1,mm 131 16,mm 132 3,mm 133 4,cc 134 208 [(.t 129),(.t 130),(.t 131),(.t 132),(.t 133)]] (.row [mm 135 16,bi 136 .add 135 1,mm 1 136]))) (sr [mm 137 19,mm 138 20,bt 139 .geq 137 138,mm 10 139] (sr [mm 140 0,mm 141 16,bi 142 .add 141 1,mm 143 2,mm 144 3,mm 145 4,cc 146 208 [(.t 140),(.t 142),(.t 143),(.t 144),(.t 145)]] (.row [mm 147 16,mm 2 147]))))))))))))))))))
def dc208:DC:=(sr [cb 10 true] (sr [cb 11 true] (.block 0 (.loop dc208l0))))
def fn208:Fn Qb 208 148 dc208 []:=Am func208
def dc302l0:DC:=(.seq (.seq (.drawn [mm 18 9,mm 19 1,bt 20 .gtr 18 19,mm 21 20,gm 22 3 3 true,gm 23 0 3 true,gm 24 9 3 true,og 25 (.iaddr 3 (.t 23) (.t 24)) 3 true,og 26 (.load (some 3) (.t 25)) 3 true,gm 27 0 3 true,gm 28 9 3 true,gi 29 .sub 28 1 3 true,og 30 (.iaddr 3 (.t 27) (.t 29)) 3 true,og 31 (.load (some 3) (.t 30)) 3 true,og 32 (.call (.t 22) [(.t 26),(.t 31)]) 3 true,gi 33 .lss 32 0 3 true,pa 34 21 33] []) (cd 34 .skip (.exit 2))) (.seq (.block 3 (.drawn [mm 37 0,mm 38 9,mm 39 0,mm 40 9,bi 41 .sub 40 1,mm 42 0,mm 43 9,bi 44 .sub 43 1,ii 45 3 42 44,lk 46 3 45,mm 47 0,mm 48 9,ii 49 3 47 48,lk 50 3 49,ii 51 3 37 38,st 3 51 46,ii 52 3 39 41,st 3 52 50] [])) (.row [mm 35 9,bi 36 .sub 35 1,mm 9 36])))
def dc302l1:DC:=(.seq (sr [mm 12 8,mm 13 2,bt 14 .lss 12 13] (cd 14 .skip (.exit 0))) (.seq (.block 1 (sr [mm 17 8,mm 9 17] (.block 2 (.loop dc302l0)))) (.row [mm 15 8,bi 16 .add 15 1,mm 8 16])))
def dc302:DC:=(sr [mm 10 1,bi 11 .add 10 1,mm 8 11] (.block 0 (.loop dc302l1)))
def fn302:Fn Qb 302 53 dc302 []:=Am func302
def dc209:DC:=(sr [ci 2 0] (.seq (.cond (.c (.bool false)) (sr [mm 3 0,oo 4 (.conv .u32 (.t 3)),c1 5 310 4,mm 2 5] .ret) .skip) (sr [mm 6 0,c1 7 311 6,mm 2 7] .ret)))
def fn209:Fn Qb 209 8 dc209 [.t 2]:=Am func209
def dc311:DC:=(sr [ci 2 0] (.seq (sr [mm 3 0,oo 4 (.bin .geq (.t 3) (.c (.int .u64 4294967296)))] (cd 4 (sr [mm 5 0,oo 6 (.bin .shr (.t 5) (.c (.int .u64 32))),mm 0 6] (.row [ci 2 32])) .skip)) (.seq (sr [mm 7 0,oo 8 (.bin .geq (.t 7) (.c (.int .u64 65536)))] (cd 8 (sr [mm 9 0,oo 10 (.bin .shr (.t 9) (.c (.int .u64 16))),mm 0 10] (.row [mm 11 2,bi 12 .add 11 16,mm 2 12])) .skip)) (.seq (sr [mm 13 0,oo 14 (.bin .geq (.t 13) (.c (.int .u64 256)))] (cd 14 (sr [mm 15 0,oo 16 (.bin .shr (.t 15) (.c (.int .u64 8))),mm 0 16] (.row [mm 17 2,bi 18 .add 17 8,mm 2 18])) .skip)) (sr [mm 19 2,mm 20 0,oo 21 (.conv .u8 (.t 20)),oo 22 (.idxs (.c (.str [0,1,2,2,3,3,3,3,4,4,4,4,4,4,4,4,5,5,5,5,5,5,5,5,5,5,5,5,5,5,5,5,6,6,6,6,6,6,6,6,6,6,6,6,6,6,6,6,6,6,6,6,6,6,6,6,6,6,6,6,6,6,6,6,7,7,7,7,7,7,7,7,7,7,7,7,7,7,7,7,7,7,7,7,7,7,7,7,7,7,7,7,7,7,7,7,7,7,7,7,7,7,7,7,7,7,7,7,7,7,7,7,7,7,7,7,7,7,7,7,7,7,7,7,7,7,7,7,8,8,8,8,8,8,8,8,8,8,8,8,8,8,8,8,8,8,8,8,8,8,8,8,8,8,8,8,8,8,8,8,8,8,8,8,8,8,8,8,8,8,8,8,8,8,8,8,8,8,8,8,8,8,8,8,8,8,8,8,8,8,8,8,8,8,8,8,8,8,8,8,8,8,8,8,8,8,8,8,8,8,8,8,8,8,8,8,8,8,8,8,8,8,8,8,8,8,8,8,8,8,8,8,8,8,8,8,8,8,8,8,8,8,8,8,8,8,8,8,8,8,8,8,8,8,8,8])) (.t 21)),oo 23 (.conv .i64 (.t 22)),bt 24 .add 19 23,mm 2 24] .ret)))))
def fn311:Fn Qb 311 25 dc311 [.t 2]:=Am func311
def dc45:DC:=(sr [ob 2 0,ob 3 1,al 4 [zn],ci 5 0] (.seq (sr [lk 8 3 3,c1 9 102 8,mm 6 9] (sr [mm 10 6,bi 11 .neq 10 0] (cd 11 (sr [lk 12 1 2,mm 13 6,st 1 4 12,mm 5 13] .ret) .skip))) (.seq (.block 0 (sr [lk 15 1 2,ff 16 0 3,ll 17 16,c2 18 103 15 17,bi 19 .geq 18 0,mm 14 19] (cd 14 (sr [lk 20 1 2,st 1 4 20,ci 5 20] .ret) (.seq (.drawn [ff 22 0 3,ll 23 22,lk 24 1 2,c1 25 105 24,c2 26 104 23 25,mm 21 26] [(3,1)]) (cd 21 (sr [lk 27 1 2,st 1 4 27,ci 5 15] .ret) (sr [ff 29 0 2,ll 30 29,nn 31 false 30,bi 32 .geq 31 4,mm 28 32] (cd 28 (sr [lk 33 1 2,st 1 4 33,ci 5 24] .ret) .skip))))))) (sr [ff 34 0 2,ll 35 34,lk 36 3 3,bl 37 124 3 36,oo 38 (.bslice 50 1 [(.t 35),(.t 37)]),c1 39 106 38,mm 7 39] (sr [mm 40 7,cc 41 107 [(.t 40),(.c (.fn 108 []))]] (sr [mm 42 7,oo 43 (.build [zn] [(0,1,(.t 42))]),st 1 4 43,ci 5 0] .ret))))))
def fn45:Fn Qb 45 44 dc45 [.cell (some 1) 4,.t 5]:=Am func45
end Go.Vd
namespace Go.Vd
open Go.Proofs Go.RowKit
def m0t:Mt:=([],0,false)
def ltM(a b:Mt):Bool:=decide (FN a.1 b.1<0)
def RowM(i:Id)(m:Mem)(xs:List Mt):Prop:=∀j,j<xs.length->m i (j*3)=some (.str (xs.getD j m0t).1)∧m i (j*3+1)=some (.int .i64 (xs.getD j m0t).2.1)∧m i (j*3+2)=some (.bool (xs.getD j m0t).2.2)
structure RowI (i:Id) (m0 m:Mem) (xs:List Mt):Prop where
 row:RowM i m xs
 out:∀i' o,(i'≠i∨xs.length*3<=o)->m i' o=m0 i' o
def RowI.put{i:Id}{m0 m:Mem}{xs:List Mt}(h:RowI i m0 m xs){j:Nat}(hj:j<xs.length){p:Bs}{q:Int}{b:Bool}:RowI i m0 (m.put i (j*3) [.str p,.int .i64 q,.bool b]) (xs.set j (p,q,b)):=by
 refine⟨λk hk=>?_,λi' o ho=>?_⟩
 ·rw[Zr]at hk;by_cases e:k=j
  ·subst e;have hg:(xs.set k (p,q,b)).getD k m0t=(p,q,b):=by simp[QX,hk]
   rw[hg];refine⟨?_,?_,?_⟩
   ·rw[Af,if_pos ⟨rfl,by omega,by simp⟩,Nat.sub_self];rfl
   ·rw[Af,if_pos ⟨rfl,by omega,by simp⟩,show k*3+1-k*3=1 by omega];rfl
   ·rw[Af,if_pos ⟨rfl,by omega,by simp⟩,show k*3+2-k*3=2 by omega];rfl
  ·have hg:(xs.set j (p,q,b)).getD k m0t=xs.getD k m0t:=by simp[QX,List.getElem?_set_ne (Ne.symm e)]
   rw[hg];have hn:∀d,d<3->¬(i=i∧j*3<=k*3+d∧k*3+d<j*3+[D.str p,.int .i64 q,.bool b].length):=by
    intro d hd;simp;omega
   obtain⟨a1,a2,a3⟩:=h.row k hk;exact⟨by rw[Af,if_neg (by have:=hn 0 (by omega);rwa [Zi]at this)];exact a1,by rw[Af,if_neg (hn 1 (by omega))];exact a2,by rw[Af,if_neg (hn 2 (by omega))];exact a3⟩
 ·rw[Zr]at ho;rw[Af,if_neg (by rintro⟨e,h1,h2⟩;simp at h2;rcases ho with ho|ho;exact ho e;omega)];exact h.out i' o ho
def RowI.swp{i:Id}{m0 m:Mem}{xs:List Mt}(h:RowI i m0 m xs){j:Nat}(hj:j+1<xs.length){x y:Mt}(hx:xs.getD j m0t=x)(hy:xs.getD (j+1) m0t=y):
  RowI i m0 ((m.put i ((j+1)*3) [.str x.1,.int .i64 x.2.1,.bool x.2.2]).put i (j*3) [.str y.1,.int .i64 y.2.1,.bool y.2.2]) (Go.Vd.swp m0t xs j):=by
 unfold Go.Vd.swp;rw[hx,hy];exact(h.put (j:=j+1) hj).put (by rw[Zr];omega)
def h108(a b:Mt):F108 [mtD a,mtD b]=some (.int .i64 (FN a.1 b.1)):=rfl
def loop302i{S:Summs}{fr i:Id}{n:Nat}{m0:Mem}{i8:Nat}{Q:Ex->St->Prop}(s108:S 108=some (Ac F108))(hn:n<=1000):
  ∀(j:Nat)(xs:List Mt) st g,xs.length=n->j<n->st.s 0= .row i n->st.s 1= .int .i64 0->st.s 2= .int .i64 (n:Int)->st.s 3= .fn 108 []->st.s 8= .int .i64 (i8:Int)->st.s 9= .int .i64 (j:Int)->RowI i m0 st.m xs->
   (∀st',st'.s 0= .row i n->st'.s 1= .int .i64 0->st'.s 2= .int .i64 (n:Int)->st'.s 3= .fn 108 []->st'.s 8= .int .i64 (i8:Int)->RowI i m0 st'.m (insE ltM m0t xs j)->Q (.exit 2) st')->A8 S fr dc302l0 Q st g:=by
 intro j;induction j with
 |zero=>
  intro xs st g hl hj h0 h1 h2 h3 h8 h9 I hex;refine Ae dc302l0.eq_1 ?_;have hgt:¬((0:Int)<((0:Nat):Int)):=by omega
  simp only[↓go1,go2,go4,simprocAttr,h1,h9,hgt];refine Ao.intro (Aj rfl) ?_;simp only[↓go1,go2,reduceIte,Qf];exact hex _ h0 h1 h2 h3 h8 I
 |succ j ih=>
  intro xs st g hl hj h0 h1 h2 h3 h8 h9 I hex;refine Ae dc302l0.eq_1 ?_;have hgt:((0:Int)<((j+1:Nat):Int)):=by omega
  have w1:IntKind.i64.wrap (((j+1:Nat):Int)-1)=(j:Int):=by rw[w64 (by omega) (by omega)];omega
  have hj0:=nJ (j:=j);have hj1:(0:Int)<=((j+1:Nat):Int):=by omega
  have hjn:((j:Int)<(n:Int)):=by omega
  have hj1n:(((j+1:Nat):Int)<(n:Int)):=by omega
  have bn:(3=1)=False:=by simp
  obtain⟨a0,a1,a2⟩:=I.row j (by omega);obtain⟨b0,b1,b2⟩:=I.row (j+1) (by omega);obtain⟨x,hx⟩:∃x,xs.getD j m0t=x:=⟨_,rfl⟩;obtain⟨y,hy⟩:∃y,xs.getD (j+1) m0t=y:=⟨_,rfl⟩;have hst:=hex;unfold insE at hst;have hlt:ltM (xs.getD (j+1) m0t) (xs.getD j m0t)=decide (FN (xs.getD (j+1) m0t).1 (xs.getD j m0t).1<0):=rfl;rw[hlt]at hst;rw[hx]at a0 a1 a2 hst;rw[hy]at b0 b1 b2 hst;clear hlt;have hc:=h108 y x;simp only[mtD]at hc;obtain⟨st_s,st_m,st_c⟩:=st;simp only at h0 h1 h2 h3 h8 h9 a0 a1 a2 b0 b1 b2 I;by_cases hlt:FN y.1 x.1<0
  ·rw[if_pos (by simpa using hlt)]at hst;have q1:((j+1)*3<=j*3)=False:=eq_false (by omega);have q2:((j+1)*3<=j*3+1)=False:=eq_false (by omega);have q3:((j+1)*3<=j*3+1+1)=False:=eq_false (by omega);have hlt':decide (FN y.1 x.1<0)=true:=by simpa using hlt
   simp only[↓go1,gB3,simprocAttr,h0,h1,h3,h9,hgt,hj0,hj1,hjn,hj1n,w1,bn,Qe,a0,a1,a2,b0,b1,b2,hlt,Aa s108,hc,Ap,Aq,and_self,Qc];refine Ao.intro (Aj rfl) ?_;simp only[↓go1,gB2,simprocAttr,h0,h9,hj0,hj1,hjn,hj1n,w1,bn,Qe,a0,a1,a2,b0,b1,b2,q1,q2,q3,false_and,and_false,Af,Ap,Aq,and_self,Qc,Qk];refine Ao.intro (Aj rfl) ?_;simp only[↓go1,go2,simprocAttr,h9,w1,bn];refine ih _ _ _ (by rw[swp_len];exact hl) (by omega) h0 h1 h2 h3 h8 rfl ?_ hst;exact I.swp (by omega) hx hy
  ·rw[if_neg (by simpa using hlt)]at hst;simp only[↓go1,gB3,simprocAttr,h0,h1,h3,h9,hgt,hj0,hj1,hjn,hj1n,w1,bn,Qe,a0,a1,a2,b0,b1,b2,hlt,Aa s108,hc,Ap,Aq,and_self,Qc];refine Ao.intro (Aj rfl) ?_;simp only[↓go1,go2,reduceIte,Qf,bn];exact hst _ h0 h1 h2 h3 h8 I
def loop302o{S:Summs}{fr i:Id}{n:Nat}{m0:Mem}{Q:Ex->St->Prop}(s108:S 108=some (Ac F108))(hn:n<=1000){zs:List Mt}
  (hexit:∀st,RowI i m0 st.m zs->Q (.exit 0) st):
  ∀(f k:Nat)(xs:List Mt) st g,xs.length=n->k+f=n->CX ltM m0t f k xs=zs->st.s 0= .row i n->st.s 1= .int .i64 0->st.s 2= .int .i64 (n:Int)->st.s 3= .fn 108 []->st.s 8= .int .i64 (k:Int)->RowI i m0 st.m xs->
   A8 S fr dc302l1 Q st g:=by
 intro f;induction f with
 |zero=>
  intro k xs st g hl hk hz h0 h1 h2 h3 h8 I;refine Ae dc302l1.eq_1 ?_;have:¬((k:Int)<n):=by omega
  simp only[↓go1,go2,go4,simprocAttr,h2,h8,this];exact hexit _ (by rw[←hz];exact I)
 |succ f ih=>
  intro k xs st g hl hk hz h0 h1 h2 h3 h8 I;refine Ae dc302l1.eq_1 ?_;have hlt:((k:Int)<n):=by omega
  have hw:IntKind.i64.wrap ((k:Int)+1)=((k+1:Nat):Int):=w64 (by omega) (by omega);simp only[↓go1,go2,go4,simprocAttr,h2,h8,hlt];refine loop302i (i8:=k) (m0:=m0) s108 hn k xs _ _ hl (by omega) h0 h1 h2 h3 h8 rfl I (λst' g0 g1 g2 g3 g8 I'=>?_);simp only[↓go1,go2,simprocAttr,g8,hw];exact ih (k+1) _ _ _ (by rw[insE_len];exact hl) (by omega) hz g0 g1 g2 g3 rfl I'
def rowR(m:Mem)(i:Id):Nat->Nat->Option (List Mt)
 |0,_=>some []
 |f+1,j=>match m i (j*3),m i (j*3+1),m i (j*3+2),rowR m i f (j+1)with
  |some (.str p),some (.int .i64 q),some (.bool b),some l=>some ((p,q,b)::l)
  |_,_,_,_=>none
def rowR_some{m:Mem}{i:Id}:∀{f j:Nat} {xs:List Mt},rowR m i f j=some xs->xs.length=f∧∀k,k<f->m i ((j+k)*3)=some (.str (xs.getD k m0t).1)∧m i ((j+k)*3+1)=some (.int .i64 (xs.getD k m0t).2.1)∧m i ((j+k)*3+2)=some (.bool (xs.getD k m0t).2.2)
 |0,j,xs,h=>by
  simp only[rowR,Qa]at h;subst h;exact⟨rfl,λk hk=>absurd hk (Nat.not_lt_zero _)⟩
 |f+1,j,xs,h=>by
  unfold rowR at h;split at h
  ·rename_i p q b l e1 e2 e3 e4;simp only[Qa]at h;subst h;obtain⟨r1,r2⟩:=rowR_some e4;refine⟨by simp[r1],λk hk=>?_⟩;cases k with
   |zero=>exact⟨e1,e2,e3⟩
   |succ k=>
    have:=r2 k (by omega);rw[show j+1+k=j+(k+1)by omega]at this;exact this
  ·cases h
def rowR_loc{m m':Mem}{i:Id}:∀{f j n:Nat},j+f<=n->(∀o,o<n*3->m i o=m' i o)->rowR m i f j=rowR m' i f j
 |0,j,n,_,_=>rfl
 |f+1,j,n,hn,h=>by
  unfold rowR;rw[h (j*3) (by omega),h (j*3+1) (by omega),h (j*3+2) (by omega),rowR_loc (f:=f) (j:=j+1) (by omega) h]
def rowR_of{m:Mem}{i:Id}{xs:List Mt}(h:∀j d,(flat (Ar xs))[j]?=some d->m i j=some d):rowR m i xs.length 0=some xs:=by
 have key:∀(ys pre:List Mt),pre++ys=xs->rowR m i ys.length pre.length=some ys:=by
  intro ys;induction ys with
  |nil=>intro pre _;rfl
  |cons y r ih=>
   intro pre hp;have hsz:∀x∈Ar xs,x.cells.length=3:=λx hx=>by obtain⟨z,_,rfl⟩:=QF.1 hx;rfl
   have hlt:pre.length<(Ar xs).length:=by rw[Ax,←hp];simp
   have hg:(Ar xs)[pre.length]=mtD y:=by simp[Ar,←hp]
   have e0:=h _ _ ((D_ hsz hlt (j:=0) (by omega)).trans (by rw[hg];rfl));have e1:=h _ _ ((D_ hsz hlt (j:=1) (by omega)).trans (by rw[hg];rfl));have e2:=h _ _ ((D_ hsz hlt (j:=2) (by omega)).trans (by rw[hg];rfl));have:=ih (pre++[y]) (by rw[←hp];simp);rw[Qx]at this;rw[Zi]at e0;have this:rowR m i r.length (pre.length+1)=some r:=this;simp only[Qz,rowR,e0,e1,e2,this]
 exact key xs [] rfl
def sortU(m:Mem)(i:Id)(n:Nat):Option (D×Upd):=if n<=12∧1<=n then(rowR m i n 0).map λxs=>(.tup [],[(i,0,flat (Ar (CX ltM m0t (n-1) 1 xs)))])else none
def Et(sh:List D->Option (Id×Nat)):Summ where
 rd:=λds _=>match sh ds with
  |some (i,n)=>(List.range (n*3)).map λo=>(i,o)
  |none=>[]
 ex:=λds m _=>match sh ds with
  |some (i,n)=>sortU m i n
  |none=>none
def sortQ_loc(sh:List D->Option (Id×Nat)):∀ds m m' fr,(∀l∈(Et sh).rd ds m,m l.1 l.2=m' l.1 l.2)->(Et sh).ex ds m fr=(Et sh).ex ds m' fr:=by
 intro ds m m' fr h;simp only[Et]at h ⊢;cases hs:sh ds with
 |none=>rfl
 |some p=>
  obtain⟨i,n⟩:=p;simp only[hs]at h ⊢;unfold sortU;split
  ·rw[rowR_loc (m:=m) (m':=m') (n:=n) (by omega) λo ho=>h (i,o) (QF.2 ⟨o,by simpa using ho,rfl⟩)]
  ·rfl
def sortQ_some{sh:List D->Option (Id×Nat)}{ds:List D}{m:Mem}{fr:Id}{r:D}{u:Upd}(h:(Et sh).ex ds m fr=some (r,u)):
  ∃i n xs,sh ds=some (i,n)∧n<=12∧1<=n∧rowR m i n 0=some xs∧xs.length=n∧RowI i m m xs∧r= .tup []∧u=[(i,0,flat (Ar (CX ltM m0t (n-1) 1 xs)))]:=by
 simp only[Et]at h;cases hs:sh ds with
 |none=>rw[hs]at h;cases h
 |some p=>
  obtain⟨i,n⟩:=p;simp only[hs]at h;unfold sortU at h;split at h
  ·rename_i hc;rw[Qr]at h;obtain⟨xs,hx,h⟩:=h;simp only[QE]at h;obtain⟨rfl,rfl⟩:=h;obtain⟨r1,r2⟩:=rowR_some hx;exact⟨i,n,xs,rfl,hc.1,hc.2,hx,r1,⟨λj hj=>by have:=r2 j (by omega);rwa [QC]at this,λ_ _ _=>rfl⟩,rfl,rfl⟩
  ·cases h
def RowI.fin{i:Id}{m0 m:Mem}{xs:List Mt}(h:RowI i m0 m xs):∀i' o x,(m0.put i 0 (flat (Ar xs))) i' o=some x->m i' o=some x:=by
 intro i' o x hx;have hsz:∀x∈Ar xs,x.cells.length=3:=λx hx=>by obtain⟨z,_,rfl⟩:=QF.1 hx;rfl
 have hfl:=BV hsz;rw[Ax]at hfl;rw[Af]at hx;split at hx
 ·rename_i hc;obtain⟨rfl,_,ho⟩:=hc;rw[Qq]at hx;have hk:o / 3<xs.length:=by omega
  have hlt:o / 3<(Ar xs).length:=by rw[Ax];exact hk
  have hg:(Ar xs)[o / 3]=mtD (xs.getD (o / 3) m0t):=by simp[Ar,Qd hk]
  obtain⟨a0,a1,a2⟩:=h.row (o / 3) hk;have hj:o % 3<3:=Nat.mod_lt _ (by omega);have e:o / 3*3+o % 3=o:=by omega
  have:=D_ hsz hlt hj;rw[e,hx,hg]at this;have h3:o % 3=0∨o % 3=1∨o % 3=2:=by omega
  rcases h3 with h3|h3|h3
  ·rw[h3]at this e;rw[Zi]at e;rw[←e,a0,this];rfl
  ·rw[h3]at this e;rw[←e,a1,this];rfl
  ·rw[h3]at this e;rw[←e,a2,this];rfl
 ·rename_i hc;rw[←hx];refine h.out i' o ?_;by_cases e:i'=i
  ·right;rcases Zv o (xs.length*3)with hl|hl
   ·exact absurd ⟨e,Ql _,by omega⟩ hc
   ·exact hl
  ·exact .inl e
def sh302:List D->Option (Id×Nat)
 |[.row i n,.int .i64 0,.int .i64 k,.fn 108 []]=>if k=(n:Int)then some (i,n)else none
 |_=>none
def ok302:(Et sh302).ok Qb 302:=by
 obtain⟨S,hS,hl⟩:=A7 (Ab ok108 Ad);have s108:=hl 108 _ rfl;clear hl;refine opn_ok hS fn302 (sortQ_loc _) (λds m fr r u hex hfr=>?_);obtain⟨i,n,xs,hsh,hn,hn1,hr,hl,I,rfl,rfl⟩:=sortQ_some hex;unfold sh302 at hsh;split at hsh
 ·split at hsh
  ·rename_i hk;simp only[Qa,QE]at hsh;obtain⟨rfl,rfl⟩:=hsh;subst hk;refine⟨by simp,?_⟩;rename_i i n;have hw:IntKind.i64.wrap ((0:Int)+1)=((1:Nat):Int):=rfl;unfold dc302;simp only[↓go1,go2,simprocAttr,hw];refine loop302o (m0:=m) (zs:=CX ltM m0t (n-1) 1 xs) s108 (by omega) (λst' I'=>?_) (n-1) 1 xs _ _ hl (by omega) rfl rfl rfl rfl rfl rfl I;simp only[↓go1,go2,go4,reduceIte];exact I'.fin
  ·cases hsh
 ·cases hsh
def sh208:List D->Option (Id×Nat)
 |[.row i n,.int .i64 0,.int .i64 k,.int .i64 _,.fn 108 []]=>if k=(n:Int)then some (i,n)else none
 |_=>none
def ok208:(Et sh208).ok Qb 208:=by
 obtain⟨S,hS,hl⟩:=A7 (Ab ok302 Ad);have s302:=hl 302 _ rfl;clear hl;refine opn_ok hS fn208 (sortQ_loc _) (λds m fr r u hex hfr=>?_);obtain⟨i,n,xs,hsh,hn,hn1,hr,hl,I,rfl,rfl⟩:=sortQ_some hex;unfold sh208 at hsh;split at hsh
 ·split at hsh
  ·rename_i hk;simp only[Qa,QE]at hsh;obtain⟨rfl,rfl⟩:=hsh;subst hk;refine⟨by simp,?_⟩;rename_i i n _;have hw:IntKind.i64.wrap ((n:Int)-0)=(n:Int):=by rw[w64 (by omega) (by omega)];omega
   have hle:((n:Int)<=12):=by omega
   have hg:∀fr,(Et sh302).ex ([.row i n,.int .i64 0,.int .i64 (n:Int),.fn 108 []]++[]) m fr=some (.tup [],[(i,0,flat (Ar (CX ltM m0t (n-1) 1 xs)))]):=by
    intro fr;simp only[Et,sh302,Q2,if_true,sortU,hn,hn1,and_self,hr,QO]
   unfold dc208;simp only[↓go1,go2,Qh];refine Ae dc208l0.eq_1 ?_;simp only[↓go1,go2,go4,simprocAttr,hw,hle];rw[Ag s302];refine Got.intro (hg _) ?_;simp only[↓go1,go2,go4];exact λ_ _ _ h=>h
  ·cases hsh
 ·cases hsh
def R311:List D->Option D:=funRun (λ_=>none) 25 dc311 [.t 2] 60
def ok311:(Ac R311).ok Qb 311:=funRun_ok AL fn311 60
def R209:List D->Option D:=funRun (AC [(311,Ac R311)]) 8 dc209 [.t 2] 60
def ok209:(Ac R209).ok Qb 209:=funRun_ok (Ab ok311 Ad) fn209 60
def isI:Option D->Bool
 |some (.int .i64 _)=>true
 |_=>false
def R209_all:(List.range 13).all (λn=>isI (R209 [.int .u64 (n:Nat)]))=true:=by kernel_rfl
def R209_get{n:Nat}(h:n<=12):∃k,R209 [.int .u64 (n:Nat)]=some (.int .i64 k):=by
 have:=Qw.1 R209_all n (by simp;omega);generalize R209 [.int .u64 (n:Nat)]=r at this;unfold isI at this;split at this
 ·exact⟨_,rfl⟩
 ·cases this
def sh107:List D->Option (Id×Nat)
 |[.row i n,.fn 108 []]=>some (i,n)
 |_=>none
def ok107:(Et sh107).ok Qb 107:=by
 obtain⟨S,hS,hl⟩:=A7 (Ab ok209 (Ab ok208 Ad));have s209:=hl 209 _ rfl;have s208:=hl 208 _ rfl;clear hl;refine opn_ok hS fn107 (sortQ_loc _) (λds m fr r u hex hfr=>?_);obtain⟨i,n,xs,hsh,hn,hn1,hr,hl,I,rfl,rfl⟩:=sortQ_some hex;unfold sh107 at hsh;split at hsh
 ·simp only[Qa,QE]at hsh;obtain⟨rfl,rfl⟩:=hsh;refine⟨by simp,?_⟩;rename_i i n;have hw:IntKind.u64.wrap ((n:Nat):Int)=((n:Nat):Int):=by simp only[IntKind.wrap,IntKind.signed,IntKind.bits,Zt,Zk,if_false];omega
  obtain⟨k,hk⟩:=R209_get hn;have hg:∀fr,(Et sh208).ex ([.row i n,.int .i64 0,.int .i64 (n:Int),.int .i64 k,.fn 108 []]++[]) m fr=some (.tup [],[(i,0,flat (Ar (CX ltM m0t (n-1) 1 xs)))]):=by
   intro fr;simp only[Et,sh208,Q2,if_true,sortU,hn,hn1,and_self,hr,QO]
  unfold dc107;simp only[↓go1,gB3,simprocAttr,hw,Aa s209,hk];rw[Ag s208];refine Got.intro (hg _) ?_;simp only[↓go1,go2,go4];exact λ_ _ _ h=>h
 ·cases hsh
def fn106':Fn Qb 106 36 (FM 9 124 3 32 207) [.t 2]:=fn106
def own106:(ownS λds=>(FcatG 3 ds).bind λys=>if(flat ys).all D.plain=true then some ys else none).ok Qb 106:=cat_own fn106' (by omega) ok207
def FC:List D->Option (List D):=λds=>(FcatG 3 ds).bind λys=>if(flat ys).all D.plain=true then some ys else none
def mtsD_plain(l:List Mt):(flat (Ar l)).all D.plain=true:=by
 induction l with
 |nil=>rfl
 |cons m r ih=>simp only[Ar,Ze,flat,mtD,D.cells,Zg,Zn,QS,D.plain,Bool.and_self,Bool.true_and];exact ih
def mtsD_append(a b:List Mt):Ar (a++b)=Ar a++Ar b:=Zq
def mtsD_sz(l:List Mt):(Ar l).all (szB 3)=true:=by rw[Qw];intro x hx;obtain⟨y,_,rfl⟩:=QF.1 hx;rfl
def FC_eq{l:List Mt}{m:Mt}{nl:Bool}(hl:l.length<=1000):FC [.slice false [] [.slice nl [] (Ar l),.slice false [] [mtD m]]]=some (Ar (l++[m])):=by
 have hc:En [.slice nl [] (Ar l),.slice false [] [mtD m]]=some (Ar (l++[m])):=by
  simp only[En,QO,Q2,mtsD_append];rfl
 have hlen:(Ar (l++[m])).length=l.length+1:=by rw[Ax,Qx];rfl
 simp only[FC,FcatG,hc];rw[if_pos ⟨by simp,by omega,by omega,mtsD_sz _⟩,Qc,if_pos (mtsD_plain _)]
def Fp(l:List Mt)(m:Mt):Option (List Mt)×Int:=
 if CW m.1 m.2.1≠0 then(none,CW m.1 m.2.1)else if 0<=BW l m.1 then(none,20)else if Ez m.1 (l.map (·.1))=true then(none,15)else if 4<=l.length then(none,24)
 else(some (CX ltM m0t l.length 1 (l++[m])),0)
def tabD(nl:Bool)(l:List Mt)(o:Option (List Mt)):D:=match o with
 |none=> .agg [.slice nl [] (Ar l)]
 |some l'=> .agg [.slice false [] (Ar l')]
open Classical in
def F45:List D->Option D
 |[.agg [.slice nl _ xs],.agg [.str p,.int .i64 q,.bool b]]=>if mtsOk nl xs∧xs.length<=1000∧p.length<=1000000 then some (.tup [tabD nl (Ca xs) (Fp (Ca xs) (p,q,b)).1,.int .i64 (Fp (Ca xs) (p,q,b)).2])else none
 |_=>none
open Classical in
def F45_eq{nl:Bool}{t:Id}{l:List Mt}{m:Mt}(hl:l.length<=1000)(hn:nl=true->l=[])(hp:m.1.length<=1000000):F45 [.agg [.slice nl t (Ar l)],mtD m]=some (.tup [tabD nl l (Fp l m).1,.int .i64 (Fp l m).2]):=by
 have h:mtsOk nl (Ar l)∧(Ar l).length<=1000∧m.1.length<=1000000:=⟨mtsOk_mk (by omega) hn,by rw[Ax];exact hl,hp⟩;show(if _ then _ else _)=_;rw[if_pos h,Bh]
def row_data{i:Id}{n:Nat}:(D.row i n).data=true:=rfl
def row_cells{i:Id}{n:Nat}:(D.row i n).cells=[.row i n]:=rfl
def mtsD_calmR(nl:Bool)(l:List Mt)(o:Option (List Mt))(e:Int):(D.tup [tabD nl l o,.int .i64 e]).calmR=true:=by
 cases o<;>rfl
def ok45:(Ac F45).ok Qb 45:=by
 obtain⟨S,hS,hl⟩:=A7 (Ab ok102 (Ab ok103 (Ab ok104 (Ab ok105 (Ab own106 (Ab ok107 Ad))))));have s102:=hl 102 _ rfl;have s103:=hl 103 _ rfl;have s104:=hl 104 _ rfl;have s105:=hl 105 _ rfl;have s106:=hl 106 _ rfl;have s107:=hl 107 _ rfl;clear hl;refine fun_set hS fn45 (λds r h=>?_) (λds r h=>?_)
 ·unfold F45 at h;split at h
  ·simp
  ·cases h
 ·unfold F45 at h;split at h
  ·rename_i nl t xs p q b;split at h
   ·rename_i hc;obtain⟨hc,hlen,hp⟩:=hc;obtain⟨l,rfl,hl,hn,e⟩:=mtsOk_get hc;rw[e]at h;rw[Ax]at hlen;simp only[Qa]at h;subst h;refine⟨mtsD_calmR ..,?_⟩;have h102:F102 [.agg [.str p,.int .i64 q,.bool b]]=some (.int .i64 (CW p q)):=if_pos hp;have h103:=F103_eq (nl:=nl) (t:=[]) (p:=p) hl;have h105:=F105_eq (nl:=nl) (t:=t) hl;have h104:=F104_eq (s:=p) (nl:=false) (t:=[]) (l:=l.map (·.1)) (by simpa using hl);have hown:∀mm fr,(ownS FC).ex [D.slice false [30] [D.slice nl [] (Ar l),D.slice false [] [D.agg [D.str p,D.int IntKind.i64 q,D.bool b]]]] mm fr=some (.row fr (l.length+1),[(fr,0,flat (Ar (l++[(p,q,b)])))]):=by
     intro mm fr;have h1:FC ([D.slice false [30] [D.slice nl [] (Ar l),D.slice false [] [D.agg [D.str p,D.int IntKind.i64 q,D.bool b]]]].map D.un)=some (Ar (l++[(p,q,b)])):=FC_eq (m:=(p,q,b)) hlen;simp only[ownS,h1];refine(if_pos rfl).trans ?_;rw[QO,Ax,Qx];rfl
    have hsort:l.length<4->∀mm fr,(∀(j:Nat) d,(flat (Ar (l++[(p,q,b)])))[j]?=some d->mm [31] j=some d)->(Et sh107).ex [.row [31] (l.length+1),.fn 108 []] mm fr=some (.tup [],[([31],0,flat (Ar (CX ltM m0t l.length 1 (l++[(p,q,b)]))))]):=by
     intro hl4 mm fr hm;have hr:=rowR_of hm;rw[Qx]at hr;simp only[Et,sh107,sortU];rw[if_pos ⟨by omega,by omega⟩,show l.length+1=l.length+[(p,q,b)].length from rfl,hr];rfl
    unfold dc45 Fp;simp only;generalize CW p q=e1 at *;generalize BW l p=e2 at *;generalize Ez p (l.map (·.1))=e3 at *;by_cases he:e1=0
    ·subst he;by_cases he2:0<=e2
     ·simp only[↓go1,gB0,simprocAttr,Aa s102,h102,Aa s103,h103,ne_eq,Af,Ap,Aq,Qc,Qk,Qi,Qm,and_false,Qn,AX,Be,he2];exact .inr ⟨_,_,rfl,rfl,.inl (.inl rfl),.inl (.inl rfl),trivial⟩
     ·cases e3 with
      |true=>
       simp only[↓go1,gB0,simprocAttr,Aa s102,h102,Aa s103,h103,Aa s104,h104,Ag s105,rowS,h105,ne_eq,Af,Ap,Aq,Qc,Qi,Qm,and_false,Qn,he2];refine Ao.intro (Aj rfl) ?_;simp only[↓go1,gB2,go4,simprocAttr,Af,Ap,Aq,Ql,Qq,Qg,and_self,Qc,Qk,Qi,Qm,Qn,AX,Be,he2];exact .inr ⟨_,_,rfl,rfl,.inl (.inl rfl),.inl (.inl rfl),trivial⟩
      |false=>
       by_cases h4:4<=l.length
       ·have h4':(4:Int)<=(l.length:Int):=by omega
        simp only[↓go1,gB0,simprocAttr,Aa s102,h102,Aa s103,h103,Aa s104,h104,Ag s105,rowS,h105,ne_eq,Af,Ap,Aq,Qc,Qi,Qm,and_false,Qn,he2];refine Ao.intro (Aj rfl) ?_;simp only[↓go1,gB2,go4,simprocAttr,Ax,Af,Ap,Aq,Ql,Qq,Qg,and_self,Qc,Qk,Qi,Qm,Qn,AX,Be,he2,h4',h4];exact .inr ⟨_,_,rfl,rfl,.inl (.inl rfl),.inl (.inl rfl),trivial⟩
       ·have h4':¬(4:Int)<=(l.length:Int):=by omega
        simp only[↓go1,gB0,simprocAttr,Aa s102,h102,Aa s103,h103,Aa s104,h104,Ag s105,rowS,h105,ne_eq,Af,Ap,Aq,Qc,Qi,Qm,and_false,Qn,he2];refine Ao.intro (Aj rfl) ?_;simp only[↓go1,gB0,simprocAttr,Ag s106,Ax,Af,Ap,Aq,Qc,Qi,Qm,and_false,Qn,h4'];refine Got.intro (hown _ _) ?_;simp only[↓go1,gB3,simprocAttr,Ag s107];refine Got.intro (hsort (by omega) _ _ (λj d hd=>?_)) ?_
        ·rw[Af,if_pos ⟨rfl,Ql _,by rw[QC];exact(Qs.1 hd).1⟩];exact hd
        simp only[↓go1,gB2,go4,simprocAttr,row_data,row_cells,BK,C5,Af,Ap,Aq,Ql,Qq,Qg,and_self,Qc,Qy,Qk,Qj,Qv,Qi,false_and,Qn,AX,Be,he2,h4];refine .inr ⟨_,_,rfl,rfl,.inr ⟨_,_,rfl,rfl,.inr ⟨[31],_,3,?_,rfl,?_,?_⟩,trivial⟩,.inl (.inl rfl),trivial⟩
        ·rw[Ax,F5,Qx];rfl
        ·intro x hx;obtain⟨y,_,rfl⟩:=QF.1 hx;exact⟨rfl,rfl⟩
        ·intro j x hx;rw[Mem.put_other (by decide),Af,if_pos ⟨rfl,Ql _,by rw[QC];exact(Qs.1 hx).1⟩];exact hx
    ·simp only[↓go1,gB0,simprocAttr,Aa s102,h102,ne_eq,Af,Ap,Aq,Qc,Qk,Qi,Qm,and_false,Qn,AX,Be,he];exact .inr ⟨_,_,rfl,rfl,.inl (.inl rfl),.inl (.inl rfl),trivial⟩
   ·cases h
  ·cases h
end Go.Vd
namespace Go.Vd
open Go.Proofs
def dc248l0:DC:=(sr [bt 12 .lss 11 10] (.seq (cd 12 .skip (.exit 0)) (.seq (.block 1 (sr [ii 13 3 9 11,lk 14 3 13,al 7 [zs,zi,zb],st 3 7 14] (sr [mm 15 1,ff 16 0 7,ll 17 16,c2 18 301 15 17] (cd 18 (sr [lk 19 3 7,st 3 4 19,ci 5 0] .ret) .skip)))) (.row [bi 20 .add 11 1,mm 11 20]))))
def dc248:DC:=(sr [ob 2 0,al 4 [zs,zi,zb],ci 5 0] (.seq (sr [ff 8 0 2,ll 9 8,nn 10 false 9,ci 11 0] (.block 0 (.loop dc248l0))) (sr [oo 21 (.build [zs,zi,zb] []),st 3 4 21,ci 5 14] .ret)))
def fn248:Fn Qb 248 22 dc248 [.cell (some 3) 4,.t 5]:=Am func248
def dc159:DC:=(sr [ob 2 0,cb 4 false] (sr [ff 8 3 2,lk 9 1 8,mm 10 1,c2 11 248 9 10,mm 7 11,xx 12 0 7,xx 13 1 7,al 5 [zs,zi,zb],st 3 5 12,mm 6 13] (sr [mm 14 6,bi 15 .eql 14 0,mm 4 15] .ret)))
def fn159:Fn Qb 159 16 dc159 [.t 4]:=Am func159
def dc47l0:DC:=(.seq (sr [mm 21 8,mm 22 0,nn 23 false 22,bt 24 .lss 21 23] (cd 24 .skip (.exit 0))) (.seq (.block 1 (.seq (.seq (.drawn [mm 27 0,mm 28 8,ii 29 3 27 28,ff 30 0 29,ll 31 30,ff 32 0 3,ll 33 32,c2 34 111 31 33,mm 35 34,gf 36 0 3 8 false,gl 37 36 8 false,gm 38 0 8 false,gm 39 8 8 false,og 40 (.iaddr 3 (.t 38) (.t 39)) 8 false,gf 41 0 40 8 false,gl 42 41 8 false,gc 43 111 [(.t 37),(.t 42)] 8 false,po 44 35 43] []) (cd 44 (sr [mm 45 0,mm 4 45,ci 5 15] .ret) .skip)) (.seq (.drawn [mm 46 0,mm 47 8,ii 48 3 46 47,ff 49 0 48,ll 50 49,ff 51 0 3,ll 52 51,bt 53 .lss 50 52] []) (cd 53 (.row [mm 54 8,bi 55 .add 54 1,mm 7 55]) .skip)))) (.row [mm 25 8,bi 26 .add 25 1,mm 8 26])))
def dc47:DC:=(sr [ob 3 1,oo 4 (.mv (.c (.slice true [] []))),ci 5 0] (sr [lk 9 3 3,c1 10 110 9,mm 6 10] (.seq (sr [mm 11 6,bi 12 .neq 11 0] (cd 12 (sr [mm 13 0,mm 14 6,mm 4 13,mm 5 14] .ret) .skip)) (.seq (sr [mm 15 0,ff 16 0 3,ll 17 16,c2 18 74 15 17,bi 19 .geq 18 0] (cd 19 (sr [mm 20 0,mm 4 20,ci 5 20] .ret) .skip)) (sr [ci 7 0] (.seq (sr [ci 8 0] (.block 0 (.loop dc47l0))) (.seq (sr [mm 56 0,nn 57 false 56,bi 58 .geq 57 4] (cd 58 (sr [mm 59 0,mm 4 59,ci 5 24] .ret) .skip)) (.seq (.drawn [oo 60 (.bslice 118 3 []),mm 61 0,mm 62 7,oo 63 (.cutl 3 (.t 61) none (some (.t 62))),ap 64 118 3 32 60 63,lk 65 3 3,bl 66 118 3 65,ap 67 118 3 32 64 66,mm 68 0,mm 69 7,oo 70 (.cutl 3 (.t 68) (some (.t 69)) none),ap 71 118 3 32 67 70,mm 4 71,ci 5 0] [(0,5),(4,5),(4,6),(6,4)]) .ret))))))))
def fn47:Fn Qb 47 72 dc47 [.t 4,.t 5]:=Am func47
end Go.Vd
namespace Go.Vd
open Go.Proofs Go.RowKit
def loop248{S:Summs}{l:List Mt}{p:Bs}{nl:Bool}{t:Id}{Q:Ex->St->Prop}(hb:l.length<=1000000)(s301:S 301=some (Ac F301))
  (hret:∀st (m:Mt),Ci l p≠-1->m=Bj l (Ci l p).toNat->st.s 4= .ptr [1] 0->st.s 5= .int .i64 0->st.m [1] 0=some (.str m.1)->st.m [1] 1=some (.int .i64 m.2.1)->st.m [1] 2=some (.bool m.2.2)->Q .ret st)
  (hexit:∀st a b c,Ci l p=-1->st.s 4= .ptr [1] 0->st.m [1] 0=some a->st.m [1] 1=some b->st.m [1] 2=some c->Q (.exit 0) st):
  ∀(f j:Nat) st g a b c,l.length=j+f->(∀i,i<j->(l.map λm=>Cc p m.1)[i]?=some false)->2<=st.c->st.s 1= .str p->st.s 4= .ptr [1] 0->st.s 9= .slice nl t (Ar l)->st.s 10= .int .i64 (l.length:Int)->st.s 11= .int .i64 (j:Int)->
   st.m [1] 0=some a->st.m [1] 1=some b->st.m [1] 2=some c->A8 S [] dc248l0 Q st g:=by
 intro f;induction f with
 |zero=>
  intro j st g a b c hf hall hc h1 h4 h9 h10 h11 hm0 hm1 hm2;refine Ae dc248l0.eq_1 ?_;have hlt:¬((j:Int)<l.length):=by omega
  simp only[↓go1,go2,go4,reduceIte,Qh,h10,h11,hlt];exact hexit _ a b c (firstT_none (by rw[Qu];intro i hi;exact hall i (by omega))) h4 hm0 hm1 hm2
 |succ f ih=>
  intro j st g a b c hf hall hc h1 h4 h9 h10 h11 hm0 hm1 hm2;refine Ae dc248l0.eq_1 ?_;have hj:j<l.length:=by omega
  have hlt:((j:Int)<l.length):=by omega
  have hj0:=nJ (j:=j);have hw:=wJ (j:=j) (by omega);have hat:(Ar l)[j]?=some (.agg [.str (Bj l j).1,.int .i64 (Bj l j).2.1,.bool (Bj l j).2.2]):=mtsD_at hj;have hbj:(l.map λm=>Cc p m.1)[j]?=some (Cc p (Bj l j).1):=by simp[Bj,Qd hj]
  have hne1:([st.c+1+2]=([1]:Id))=False:=eq_false (by simp);have hne2:(([1]:Id)=[st.c+1+2])=False:=eq_false (by simp);obtain⟨m,hmm⟩:∃m,Bj l j=m:=⟨_,rfl⟩;rw[hmm]at hat hbj;have h301:F301 [.str p,.str m.1]=some (.bool (Cc p m.1)):=rfl;obtain⟨st_s,st_m,st_c⟩:=st;simp only at h1 h4 h9 h10 h11 hm0 hm1 hm2 hne1 hne2 hc;cases hq:Cc p m.1 with
  |true=>
   rw[hq]at hbj h301;have hr:Ci l p=(j:Int):=E7 hbj hall;simp only[↓go1,gB0,simprocAttr,h1,h4,h9,h10,h11,hlt,hj0,Qe,hat,hne2,hm0,hm1,hm2,Aa s301,h301,QA,Af,Ap,Aq,Qc,Qt,Qy,Qk];refine hret _ m (by rw[hr];omega) (by rw[hr];exact hmm.symm) h4 rfl ?_ ?_ ?_<;>simp only[go4,simprocAttr,hne2,hm0,hm1,hm2,QA,Af,Ql,Qq,Qz,QL,QC,Qg,QB,and_self]
  |false=>
   rw[hq]at hbj h301;simp only[↓go1,gB0,simprocAttr,h1,h9,h10,h11,hlt,hj0,hw,Qe,hat,Aa s301,h301,QA,Af,Ap,Aq,Qc,Qt,Qy,Qk];refine ih (j+1) _ _ a b c (by omega) (λi hi=>?_) (by simp only;omega) h1 h4 h9 h10 rfl ?_ ?_ ?_
   ·rcases Q4 (Zb hi)with hi|rfl
    ·exact hall i hi
    ·exact hbj
   all_goals simp only[go3,go4,simprocAttr,hne2,hm0,hm1,hm2,QA,Af,Ql,Qq,Qz,QL,QC,Qg,QB,and_self]
def routeD(l:List Mt)(p:Bs):D:=if Ci l p=-1 then .tup [mtD m0t,.int .i64 14]else .tup [mtD (Bj l (Ci l p).toNat),.int .i64 0]
open Classical in
def F248:List D->Option D
 |[.agg [.slice _ _ xs],.str p]=>if xs=Ar (Ca xs)∧xs.length<=1000000 then some (routeD (Ca xs) p)else none
 |_=>none
open Classical in
def F248_eq{nl:Bool}{t:Id}{l:List Mt}{p:Bs}(hl:l.length<=1000000):F248 [.agg [.slice nl t (Ar l)],.str p]=some (routeD l p):=by
 have h:Ar l=Ar (Ca (Ar l))∧(Ar l).length<=1000000:=by rw[Bh,Ax];exact⟨rfl,hl⟩
 show(if _ then _ else _)=_;rw[if_pos h,Bh]
def ok248:(Ac F248).ok Qb 248:=by
 obtain⟨S,hS,hl⟩:=A7 (Ab ok301 Ad);have s301:=hl 301 _ rfl;clear hl;refine Ay (S:=S) hS fn248 (λds r h=>?_) (λds r h=>?_)
 ·unfold F248 at h;split at h
  ·simp
  ·cases h
 ·unfold F248 at h;split at h
  ·rename_i nl t xs p;split at h
   ·rename_i hc;obtain⟨hx,hl⟩:=hc;simp only[Qa]at h;subst h;generalize Ca xs=l at hx;subst hx;rw[Ax]at hl;unfold dc248;simp only[↓go1,gB2,go4,simprocAttr,Ax,Af,Ql,Qq,Qg,and_self,Qi,Qm];refine loop248 (l:=l) (p:=p) (nl:=nl) (t:=t) hl s301 (λst m h0 h1 h4 h5 m0 m1 m2=>?_) (λst a b c h0 h4 m0 m1 m2=>?_) l.length 0 _ _ (.str []) (.int .i64 0) (.bool false) (by omega) (by simp) (by simp only;omega) rfl rfl rfl rfl rfl ?_ ?_ ?_
    ·unfold routeD;rw[if_neg h0,←h1];simp only[↓go1,gB3,Qh,h4,h5,m0,m1,m2,Ap,Aq,QC,Qc,AX,Be];exact⟨rfl,rfl⟩
    ·unfold routeD;rw[if_pos h0];simp only[↓go1,gB0,simprocAttr,h4,m0,m1,m2,BK,Af,Ap,Aq,Qc,Qk,AX,Be];exact⟨rfl,rfl⟩
    all_goals simp only[go3,go4,simprocAttr,Af,Ql,Qq,Qz,QL,QC,Qg,QB,and_self,Qi,and_false,Qn]
   ·cases h
  ·cases h
open Classical in
def F159:List D->Option D
 |[.agg [.bool se,.int .i64 te,.str key,.slice nlm tm xs,.slice nlt tt ys],.str p]=>if xs=Ar (Ca xs)∧xs.length<=1000000 then some (.bool (decide (Ci (Ca xs) p≠-1)))else none
 |_=>none
def ok159:(Ac F159).ok Qb 159:=by
 obtain⟨S,hS,hl⟩:=A7 (Ab ok248 Ad);have s248:=hl 248 _ rfl;clear hl;refine Ay (S:=S) hS fn159 (λds r h=>?_) (λds r h=>?_)
 ·unfold F159 at h;split at h
  ·simp
  ·cases h
 ·unfold F159 at h;split at h
  ·rename_i se te key nlm tm xs nlt tt ys p;split at h
   ·rename_i hc;obtain⟨hx,hl⟩:=hc;simp only[Qa]at h;subst h;generalize Ca xs=l at hx;subst hx;rw[Ax]at hl;have h248:=F248_eq (nl:=nlm) (t:=[]) (p:=p) hl;unfold routeD at h248;by_cases hr:Ci l p=-1
    ·rw[if_pos hr]at h248;simp only[hr,ne_eq,not_true_eq_false,decide_false];unfold dc159;simp only[↓go1,gB0,simprocAttr,Aa s248,h248,mtD,Af,Ap,Aq,Qc,Qk,Qi,Qn]
     all_goals rfl
    ·rw[if_neg hr]at h248;simp only[hr,ne_eq,not_false_eq_true,decide_true];unfold dc159;simp only[↓go1,gB0,simprocAttr,Aa s248,h248,mtD,Af,Ap,Aq,Qc,Qk,Qi,Qn]
     all_goals rfl
   ·cases h
  ·cases h
def kFr(l:List Mt)(p:Bs):Nat->Nat
 |0=>0
 |j+1=>if Op.bytesLess (Bj l j).1 p=true then j+1 else kFr l p j
def kFr_le(l:List Mt)(p:Bs):∀j,kFr l p j<=j
 |0=>QA _
 |j+1=>by
  unfold kFr;split
  ·exact QA _
  ·exact Nat.le_succ_of_le (kFr_le l p j)
def nestB_at{l:List Mt}{s:Bs}{j:Nat}(hj:j<l.length)(h:(A4 (Bj l j).1 s||A4 s (Bj l j).1)=true):Ez s (l.map (·.1))=true:=by
 unfold Ez;rw[List.any_eq_true];refine⟨(Bj l j).1,QF.2 ⟨Bj l j,by simp[Bj,Qd hj],rfl⟩,?_⟩;rw[Bool.or_comm];exact h
def nestB_none{l:List Mt}{s:Bs}(h:∀i,i<l.length->(A4 (Bj l i).1 s||A4 s (Bj l i).1)=false):Ez s (l.map (·.1))=false:=by
 unfold Ez;rw[List.any_eq_false];intro q hq;obtain⟨m,hm,rfl⟩:=QF.1 hq;obtain⟨i,hi,rfl⟩:=Zh hm;have:=h i hi;simp only[Bj,QX,Qd hi,Zp]at this;rw[Bool.or_comm,this];exact Q3
def loop47{S:Summs}{l:List Mt}{p:Bs}{nl:Bool}{t:Id}{d1 d2:D}{Q:Ex->St->Prop}(hb:l.length<=1000)(s111:S 111=some (Ac F111))(hp:∀m∈l,m.1.length<=1000000)(hs:p.length<=1000000)
  (hret:∀st,Ez p (l.map (·.1))=true->st.s 4= .slice nl t (Ar l)->st.s 5= .int .i64 15->Q .ret st)
  (hexit:∀st,Ez p (l.map (·.1))=false->st.s 0= .slice nl t (Ar l)->st.s 3= .ptr [0] 0->st.s 7= .int .i64 (kFr l p l.length:Int)->st.m [0] 0=some (.str p)->st.m [0] 1=some d1->st.m [0] 2=some d2->Q (.exit 0) st):
  ∀(f j:Nat) st g,l.length=j+f->(∀i,i<j->(A4 (Bj l i).1 p||A4 p (Bj l i).1)=false)->st.s 0= .slice nl t (Ar l)->st.s 3= .ptr [0] 0->st.s 7= .int .i64 (kFr l p j:Int)->st.s 8= .int .i64 (j:Int)->
   st.m [0] 0=some (.str p)->st.m [0] 1=some d1->st.m [0] 2=some d2->A8 S [] dc47l0 Q st g:=by
 intro f;induction f with
 |zero=>
  intro j st g hf hall h0 h3 h7 h8 hm0 hm1 hm2;refine Ae dc47l0.eq_1 ?_;have hlt:¬((j:Int)<l.length):=by omega
  simp only[↓go1,go2,go4,simprocAttr,h0,h8,hlt,Ax];obtain rfl:j=l.length:=by omega
  exact hexit _ (nestB_none hall) h0 h3 h7 hm0 hm1 hm2
 |succ f ih=>
  intro j st g hf hall h0 h3 h7 h8 hm0 hm1 hm2;refine Ae dc47l0.eq_1 ?_;have hj:j<l.length:=by omega
  have hlt:((j:Int)<l.length):=by omega
  have hj0:=nJ (j:=j);have hw:=wJ (j:=j) (by omega);have hat:(Ar l)[j]?=some (.agg [.str (Bj l j).1,.int .i64 (Bj l j).2.1,.bool (Bj l j).2.2]):=mtsD_at hj;have hmem:Bj l j∈l:=by simp[Bj,Qd hj]
  have hml:=hp _ hmem;have hn:=nestB_at (s:=p) hj;have hk:kFr l p (j+1)=if Op.bytesLess (Bj l j).1 p=true then j+1 else kFr l p j:=rfl
  have hall':(A4 (Bj l j).1 p||A4 p (Bj l j).1)=false->∀i,i<j+1->(A4 (Bj l i).1 p||A4 p (Bj l i).1)=false:=by
   intro hz i hi;rcases Q4 (Zb hi)with hi|rfl
   ·exact hall i hi
   ·exact hz
  generalize Bj l j=m at hat hml hn hk hall';have h111a:F111 [.str m.1,.str p]=some (.bool (A4 m.1 p)):=if_pos ⟨hml,hs⟩;have h111b:F111 [.str p,.str m.1]=some (.bool (A4 p m.1)):=if_pos ⟨hs,hml⟩;obtain⟨st_s,st_m,st_c⟩:=st;simp only at h0 h3 h7 h8 hm0 hm1 hm2;cases hwa:A4 m.1 p with
  |true=>
   rw[hwa]at hn h111a;simp only[↓go1,gB2,go4,simprocAttr,h0,h3,h8,hlt,hj0,Qe,hat,Ax,hm0,Aa s111,h111a,Ql,Qj,Qp];refine Ao.intro (Aj rfl) ?_;simp only[↓go1,go2,go3,simprocAttr,h0];exact hret _ (hn rfl) rfl rfl
  |false=>
   cases hwb:A4 p m.1 with
   |true=>
    rw[hwa,hwb]at hn;rw[hwa]at h111a;rw[hwb]at h111b;simp only[↓go1,gB2,go4,simprocAttr,h0,h3,h8,hlt,hj0,Qe,hat,Ax,hm0,Aa s111,h111a,h111b,Ql,Qj,Qp];refine Ao.intro (Aj rfl) ?_;simp only[↓go1,go2,go3,simprocAttr,h0];exact hret _ (hn rfl) rfl rfl
   |false=>
    rw[hwa,hwb]at hall';rw[hwa]at h111a;rw[hwb]at h111b;cases hbl:Op.bytesLess m.1 p with
    |true=>
     rw[hbl,if_pos rfl]at hk;simp only[↓go1,gB2,go4,simprocAttr,h0,h3,h8,hlt,hj0,Qe,hat,Ax,hm0,Aa s111,h111a,h111b,Ql,Qj,Qp];refine Ao.intro (Aj rfl) ?_;simp only[↓go1,gB2,simprocAttr,h0,h3,h8,hj0,Qe,hat,hm0,Ql,Qj,Qp,v_slss,hbl];refine Ao.intro (Aj rfl) ?_;simp only[↓go1,go2,go3,simprocAttr,h8,hw];exact ih (j+1) _ _ (by omega) (hall' rfl) h0 h3 (by rw[hk];rfl) rfl hm0 hm1 hm2
    |false=>
     rw[hbl,if_neg Q3]at hk;simp only[↓go1,gB2,go4,simprocAttr,h0,h3,h8,hlt,hj0,Qe,hat,Ax,hm0,Aa s111,h111a,h111b,Ql,Qj,Qp];refine Ao.intro (Aj rfl) ?_;simp only[↓go1,gB2,simprocAttr,h0,h3,h8,hj0,Qe,hat,hm0,Ql,Qj,Qp,v_slss,hbl];refine Ao.intro (Aj rfl) ?_;simp only[↓go1,go2,go3,simprocAttr,h8,hw];exact ih (j+1) _ _ (by omega) (hall' rfl) h0 h3 (by rw[hk];exact h7) rfl hm0 hm1 hm2
def mtsD_take(l:List Mt)(k:Nat):Zd k (Ar l)=Ar (l.take k):=by simp[Ar]
def mtsD_drop(l:List Mt)(k:Nat):Q0 k (Ar l)=Ar (l.drop k):=by simp[Ar]
def addR(l:List Mt)(m:Mt):Option (List Mt)×Int:=
 if CW m.1 m.2.1≠0 then(none,CW m.1 m.2.1)else if 0<=BW l m.1 then(none,20)else if Ez m.1 (l.map (·.1))=true then(none,15)else if 4<=l.length then(none,24)
 else(some (l.take (kFr l m.1 l.length)++m::l.drop (kFr l m.1 l.length)),0)
def tabR(nl:Bool)(l:List Mt)(o:Option (List Mt)):D:=match o with
 |none=> .slice nl [] (Ar l)
 |some l'=> .slice false [] (Ar l')
open Classical in
def F47:List D->Option D
 |[.slice nl _ xs,.agg [.str p,.int .i64 q,.bool b]]=>if mtsOk nl xs∧xs.length<=1000∧p.length<=1000000∧(∀m∈Ca xs,m.1.length<=1000000)then some (.tup [tabR nl (Ca xs) (addR (Ca xs) (p,q,b)).1,.int .i64 (addR (Ca xs) (p,q,b)).2])else none
 |_=>none
open Classical in
def F47_eq{nl:Bool}{t:Id}{l:List Mt}{m:Mt}(hl:l.length<=1000)(hn:nl=true->l=[])(hp:m.1.length<=1000000)(hall:∀m∈l,m.1.length<=1000000):F47 [.slice nl t (Ar l),mtD m]=some (.tup [tabR nl l (addR l m).1,.int .i64 (addR l m).2]):=by
 have h:mtsOk nl (Ar l)∧(Ar l).length<=1000∧m.1.length<=1000000∧(∀m∈Ca (Ar l),m.1.length<=1000000):=⟨mtsOk_mk (by omega) hn,by rw[Ax];exact hl,hp,by rw[Bh];exact hall⟩;show(if _ then _ else _)=_;rw[if_pos h,Bh]
open Classical in
def F74_eq{nl:Bool}{t:Id}{l:List Mt}{p:Bs}(hl:l.length<=1000000):F74 [.slice nl t (Ar l),.str p]=some (.int .i64 (BW l p)):=by
 have h:Ar l=Ar (Ca (Ar l))∧(Ar l).length<=1000000:=by rw[Bh,Ax];exact⟨rfl,hl⟩
 show(if _ then _ else _)=_;rw[if_pos h,Bh]
def ok47:(Ac F47).ok Qb 47:=by
 obtain⟨S,hS,hl⟩:=A7 (Ab ok110 (Ab ok74 (Ab ok111 Ad)));have s110:=hl 110 _ rfl;have s74:=hl 74 _ rfl;have s111:=hl 111 _ rfl;clear hl;refine Ay (S:=S) hS fn47 (λds r h=>?_) (λds r h=>?_)
 ·unfold F47 at h;split at h
  ·simp
  ·cases h
 ·unfold F47 at h;split at h
  ·rename_i nl t xs p q b;split at h
   ·rename_i hc;obtain⟨hc,hlen,hp,hall⟩:=hc;obtain⟨l,rfl,hl,hn,e⟩:=mtsOk_get hc;rw[e]at h hall;rw[Ax]at hlen;simp only[Qa]at h;subst h;have h110:F110 [.agg [.str p,.int .i64 q,.bool b]]=some (.int .i64 (CW p q)):=if_pos hp;have h74:=F74_eq (nl:=nl) (t:=[]) (p:=p) hl;unfold dc47 addR;simp only;generalize CW p q=e1 at *;generalize BW l p=e2 at *;by_cases he:e1=0
    ·subst he;by_cases he2:0<=e2
     ·simp only[↓go1,gB0,simprocAttr,Aa s110,h110,Aa s74,h74,ne_eq,Af,Ap,Aq,Qc,he2];cases nl<;>exact⟨rfl,rfl⟩
     ·simp only[↓go1,gB0,simprocAttr,Aa s110,h110,Aa s74,h74,ne_eq,Af,Ap,Aq,Qc,he2];refine loop47 (l:=l) (p:=p) (nl:=nl) (t:=t) (d1:= .int .i64 q) (d2:= .bool b) hlen s111 hall hp (λst h1 h4 h5=>?_) (λst h1 h0 h3 h7 m0 m1 m2=>?_) l.length 0 _ _ (by omega) (λi hi=>absurd hi (Nat.not_lt_zero _)) rfl rfl rfl rfl ?_ ?_ ?_
      ·rw[h1];simp only[↓go1,gB3,reduceIte,he2,h4,h5];cases nl<;>exact⟨rfl,rfl⟩
      ·rw[h1];by_cases h4:4<=l.length
       ·have h4':(4:Int)<=(l.length:Int):=by omega
        simp only[↓go1,gB3,simprocAttr,Ax,he2,h0,h4,h4'];cases nl<;>exact⟨rfl,rfl⟩
       ·have h4':¬(4:Int)<=(l.length:Int):=by omega
        have hk:=kFr_le l p l.length;generalize kFr l p l.length=k at h7 hk;have hk0:(0:Int)<=(k:Int):=by omega
        have hkl:(k:Int)<=(l.length:Int):=by omega
        have hb1:((l.take k).length*33<=140737488355328)=True:=eq_true (by rw[QD];omega);have hb2:(((l.take k).length+1)*33<=140737488355328)=True:=eq_true (by rw[QD];omega);have hb3:(((l.take k).length+1+(l.drop k).length)*33<=140737488355328)=True:=eq_true (by rw[QD,QU];omega);have hdr:Zd (l.length-k) (Q0 k l)=Q0 k l:=Za (by rw[QU];exact QA _);have hd1:D.headSz [D.agg [.str p,.int .i64 q,.bool b]] 3=3:=rfl;have hkk:(k<=l.length)=True:=eq_true hk;simp only[↓go1,gB0,simprocAttr,ne_eq,Ax,Af,Ap,Aq,Qc,Qj,Qi,false_and,and_false,h0,h3,h7,m0,m1,m2,h4',hk0,hkl,Qe,F9,E5,QK,mtsD_head,mtsD_take,mtsD_drop,Qj,Qx,hb1,hb2,hb3,or_true,hd1,ite_self,hdr];refine Ao.intro (Aj ?_) ?_
        ·simp only[A5,Zn,QS,QX,Qg,QB,Zp,AM,Qz,QL,Zm,List.flatMap_nil,rds,↓go1,reduceIte,Qf,h3];simp[Ai]
        simp only[↓go1,gB3,reduceIte,Qf,Qj,he2,h4,mtsD_take,mtsD_drop,Qj,ite_self,hdr];have e9:Ar (Zd k l)++[D.agg [.str p,.int .i64 q,.bool b]]++Ar (Q0 k l)=Ar (Zd k l++(p,q,b)::Q0 k l):=by simp[Ar,mtD]
        rw[e9];exact⟨rfl,rfl⟩
      all_goals simp only[go3,simprocAttr,Af,Ql,Qq,Qz,QL,QC,Qg,QB,and_self]
    ·simp only[↓go1,gB0,simprocAttr,Aa s110,h110,ne_eq,Af,Ap,Aq,Qc,he];cases nl<;>exact⟨rfl,rfl⟩
   ·cases h
  ·cases h
def tksD_take(l:List Tk)(k:Nat):Zd k (Aw l)=Aw (l.take k):=by simp[Aw]
def tksD_drop(l:List Tk)(k:Nat):Q0 k (Aw l)=Aw (l.drop k):=by simp[Aw]
def DW(l:List Tk)(n:Bs):Nat->Nat->Nat
 |0,j=>j
 |f+1,j=>if Op.bytesLess (A2 l j).1 n=true then DW l n f (j+1)else j
def intoR_le(l:List Tk)(n:Bs):∀f j,DW l n f j<=j+f
 |0,j=>QA _
 |f+1,j=>by
  unfold DW;split
  ·have:=intoR_le l n f (j+1);omega
  ·omega
def loop119{S:Summs}{l:List Tk}{n:Bs}{nl:Bool}{t:Id}{d1 d2:D}{e:Nat}{Q:Ex->St->Prop}(hb:l.length<=1000000)
  (hexit:∀st,1<=st.c->st.s 0= .slice nl t (Aw l)->st.s 3= .ptr [0] 0->st.s 5= .int .i64 (e:Int)->st.m [0] 0=some (.str n)->st.m [0] 1=some d1->st.m [0] 2=some d2->Q (.exit 0) st):
  ∀(f j:Nat) st g,l.length=j+f->DW l n f j=e->1<=st.c->st.s 0= .slice nl t (Aw l)->st.s 3= .ptr [0] 0->st.s 5= .int .i64 (j:Int)->
   st.m [0] 0=some (.str n)->st.m [0] 1=some d1->st.m [0] 2=some d2->A8 S [] dc119l0 Q st g:=by
 intro f;induction f with
 |zero=>
  intro j st g hf he hc h0 h3 h5 hm0 hm1 hm2;refine Ae dc119l0.eq_1 ?_;have hlt:¬((j:Int)<l.length):=by omega
  simp only[↓go1,go2,go4,simprocAttr,h0,h5,hlt,AP];refine Ao.intro (Aj rfl) ?_;simp only[↓go1,go2,reduceIte,Qf];exact hexit _ (by simp only;omega) h0 h3 (by rw[←he];exact h5) hm0 hm1 hm2
 |succ f ih=>
  intro j st g hf he hc h0 h3 h5 hm0 hm1 hm2;refine Ae dc119l0.eq_1 ?_;have hj:j<l.length:=by omega
  have hlt:((j:Int)<l.length):=by omega
  have hj0:=nJ (j:=j);have hw:=wJ (j:=j) (by omega);have hat:(Aw l)[j]?=some (.agg [.str (A2 l j).1,.str (A2 l j).2.1,.slice (A2 l j).2.2.1 [] (An (A2 l j).2.2.2)]):=Eg hj;unfold DW at he;generalize A2 l j=m at hat he;obtain⟨st_s,st_m,st_c⟩:=st;simp only at h0 h3 h5 hm0 hm1 hm2 hc;cases hbl:Op.bytesLess m.1 n with
  |true=>
   rw[hbl,if_pos rfl]at he;simp only[↓go1,gB2,go4,simprocAttr,h0,h3,h5,hlt,hj0,Qe,hat,AP,hm0,v_slss,Ql,Qj,Qp,hbl];refine Ao.intro (Aj rfl) ?_;simp only[↓go1,go2,go3,simprocAttr,h5,hw];exact ih (j+1) _ _ (by omega) he (by simp only;omega) h0 h3 rfl hm0 hm1 hm2
  |false=>
   rw[hbl,if_neg Q3]at he;simp only[↓go1,gB2,go4,simprocAttr,h0,h3,h5,hlt,hj0,Qe,hat,AP,hm0,v_slss,Ql,Qj,Qp,hbl];refine Ao.intro (Aj rfl) ?_;simp only[↓go1,go2,go3,reduceIte,Qf];exact hexit _ (by simp only;omega) h0 h3 (by rw[←he];exact h5) hm0 hm1 hm2
def withR(l:List Tk)(k:Tk):List Tk:=l.take (DW l k.1 l.length 0)++k::l.drop (DW l k.1 l.length 0)
open Classical in
def F119:List D->Option D
 |[.slice _ _ xs,.agg [.str n,.str p,.slice nl _ ys]]=>if(xs=Aw (BX xs)∧xs.length<=90000)∧ys=An (A9 ys)then some (.slice false [] (Aw (withR (BX xs) (n,p,nl,A9 ys))))else none
 |_=>none
open Classical in
def F119_eq{nl0 nl:Bool}{t0 t:Id}{l:List Tk}{n p:Bs}{rs:List Rl}(hl:l.length<=90000):F119 [.slice nl0 t0 (Aw l),.agg [.str n,.str p,.slice nl t (An rs)]]=some (.slice false [] (Aw (withR l (n,p,nl,rs)))):=by
 have h:(Aw l=Aw (BX (Aw l))∧(Aw l).length<=90000)∧An rs=An (A9 (An rs)):=by rw[Bd,AP,AN];exact⟨⟨rfl,hl⟩,rfl⟩
 show(if _ then _ else _)=_;rw[if_pos h,Bd,AN]
def ok119:(Ac F119).ok Qb 119:=by
 refine Ay (S:=λ_=>none) AL fn119 (λds r h=>?_) (λds r h=>?_)
 ·unfold F119 at h;split at h
  ·simp
  ·cases h
 ·unfold F119 at h;split at h
  ·rename_i nl0 t0 xs n p nl t ys;split at h
   ·rename_i hc;obtain⟨⟨hx,hlen⟩,hy⟩:=hc;simp only[Qa]at h;subst h;generalize BX xs=l at *;generalize A9 ys=rs at *;subst hx hy;rw[AP]at hlen;unfold dc119;simp only[↓go1,go2,go3,Qh,QC];refine loop119 (l:=l) (n:=n) (nl:=nl0) (t:=t0) (d1:= .str p) (d2:= .slice nl t (An rs)) (e:=DW l n l.length 0) (by omega) (λst hc h0 h3 h5 m0 m1 m2=>?_) l.length 0 _ _ (by omega) rfl (by simp only;omega) rfl rfl rfl ?_ ?_ ?_
    ·unfold withR;simp only;have hk:=intoR_le l n l.length 0;generalize DW l n l.length 0=k at h5 hk;rw[QC]at hk;have hk0:(0:Int)<=(k:Int):=by omega
     have hkl:(k:Int)<=(l.length:Int):=by omega
     have hb1:((l.take k).length*57<=140737488355328)=True:=eq_true (by rw[QD];omega);have hb2:(((l.take k).length+1)*57<=140737488355328)=True:=eq_true (by rw[QD];omega);have hb3:(((l.take k).length+1+(l.drop k).length)*57<=140737488355328)=True:=eq_true (by rw[QD,QU];omega);have hdr:Zd (l.length-k) (Q0 k l)=Q0 k l:=Za (by rw[QU];exact QA _);have hd1:D.headSz [D.agg [.str n,.str p,.slice nl [] (An rs)]] 3=3:=rfl;have hc0:(0=st.c+0)=False:=eq_false (by omega);have hkk:(k<=l.length)=True:=eq_true hk;simp only[↓go1,gB0,simprocAttr,hc0,h0,h3,h5,m0,m1,m2,hk0,hkl,Qe,F9,E5,QK,tksD_head,tksD_take,tksD_drop,Qj,Qx,hb1,hb2,hb3,or_true,hd1,ite_self,hdr,AP,ne_eq,Af,Ap,Aq,Qc,Qj,Qi,false_and,and_false];refine Ao.intro (Aj ?_) ?_
     ·simp only[A5,Zn,QS,QX,Qg,QB,Zp,AM,Qz,QL,Zm,List.flatMap_nil,rds,↓go1,reduceIte,Qf,h3];simp[Ai];omega
     simp only[↓go1,gB3,reduceIte,Qf,tksD_take,tksD_drop,Qj,ite_self,hdr,Qj];have e9:Aw (Zd k l)++[D.agg [.str n,.str p,.slice nl [] (An rs)]]++Aw (Q0 k l)=Aw (Zd k l++(n,p,nl,rs)::Q0 k l):=by simp[Aw,tkD]
     rw[e9]
    all_goals simp only[go3,simprocAttr,Af,Ql,Qq,Qz,QL,QC,Qg,QB,and_self]
   ·cases h
  ·cases h
def makeR(l:List Tk)(k:Tk):Option (List Tk)×Int:=
 if FS k.1 k.2.1 k.2.2.2≠0 then(none,FS k.1 k.2.1 k.2.2.2)else if k.2.1=[]then(none,2)else if 0<=Db l k.1 then(none,20)else if Db l k.2.1<0 then(none,6)
 else if Dv k.2.2.2 (A2 l (Db l k.2.1).toNat).2.2.2=false then(none,13)else(some (withR l k),0)
def setR(nl:Bool)(l:List Tk)(o:Option (List Tk)):D:=match o with
 |none=> .slice nl [] (Aw l)
 |some l'=> .slice false [] (Aw l')
open Classical in
def F52:List D->Option D
 |[.slice nl0 _ xs,.agg [.str n,.str p,.slice nl _ ys]]=>if(Eb xs∧xs.length<=90000∧∀k∈BX xs,Ey k.2.2.2)∧rlsOk nl ys∧Ey (A9 ys)∧n.length<=1000000∧p.length<=1000000
   then some (.tup [setR nl0 (BX xs) (makeR (BX xs) (n,p,nl,A9 ys)).1,.int .i64 (makeR (BX xs) (n,p,nl,A9 ys)).2])else none
 |_=>none
open Classical in
def F117_eq{nl:Bool}{t:Id}{l:List Tk}{p:Bs}(hl:l.length<=1000000):F117 [.slice nl t (Aw l),.str p]=some (.int .i64 (Db l p)):=by
 have h:Aw l=Aw (BX (Aw l))∧(Aw l).length<=1000000:=by rw[Bd,AP];exact⟨rfl,hl⟩
 show(if _ then _ else _)=_;rw[if_pos h,Bd]
def findT_lt(l:List Tk)(p:Bs):Db l p<l.length:=by
 have:=firstT_lt (l.map λm=>decide (m.1=p));rw[Qu]at this;exact this
def ok52:(Ac F52).ok Qb 52:=by
 obtain⟨S,hS,hl⟩:=A7 (Ab ok116 (Ab ok117 (Ab ok118 (Ab ok119 Ad))));have s116:=hl 116 _ rfl;have s117:=hl 117 _ rfl;have s118:=hl 118 _ rfl;have s119:=hl 119 _ rfl;clear hl;refine Ay (S:=S) hS fn52 (λds r h=>?_) (λds r h=>?_)
 ·unfold F52 at h;split at h
  ·simp
  ·cases h
 ·unfold F52 at h;split at h
  ·rename_i nl0 t0 xs n p nl t ys;split at h
   ·rename_i hc;obtain⟨⟨hc,h9,hk⟩,hr,hpo,hn,hp⟩:=hc;obtain⟨l,rfl,hl,e⟩:=DG hc;obtain⟨rs,rfl,hrl,hrn,e2⟩:=FA hr;rw[e,e2]at h;rw[e]at hk;rw[e2]at hpo;rw[AP]at h9;simp only[Qa]at h;subst h;have h116:=F113_eq (n:=n) (p:=p) (nl:=nl) (t:=[]) hrl hpo.2.1 hn hp;have h117n:=F117_eq (nl:=nl0) (t:=[]) (p:=n) hl;have h117p:=F117_eq (nl:=nl0) (t:=[]) (p:=p) hl;have h119:=F119_eq (nl0:=nl0) (t0:=[]) (n:=n) (p:=p) (nl:=nl) (t:=[]) (rs:=rs) h9;have hlt:=findT_lt l p;unfold dc52 makeR;simp only;generalize FS n p rs=e at *;generalize Db l n=fn at *;generalize Db l p=fp at *;by_cases he:e=0
    ·subst he;by_cases hp0:p=[]
     ·subst hp0;simp only[↓go1,gB0,simprocAttr,Aa s116,h116,ne_eq,Af,Ap,Aq,Qc];simp[setR];rfl
     ·by_cases h1:0<=fn
      ·simp only[↓go1,gB0,simprocAttr,Aa s116,h116,Aa s117,h117n,ne_eq,Af,Ap,Aq,Qc,hp0,h1];simp[setR];rfl
      ·by_cases h2:fp<0
       ·simp only[↓go1,gB0,simprocAttr,Aa s116,h116,Aa s117,h117n,h117p,ne_eq,Af,Ap,Aq,Qc,hp0,h1,h2];simp[setR];rfl
       ·have hi0:(0:Int)<=fp:=by omega
        have hi:fp.toNat<l.length:=by omega
        have hat:=Eg (l:=l) (j:=fp.toNat) hi;have hm:A2 l fp.toNat∈l:=by simp[A2,Qd hi]
        have hlk:=hk _ hm;generalize A2 l fp.toNat=k at hat hlk;obtain⟨n2,p2,nl2,rs2⟩:=k;replace hat:(Aw l)[fp.toNat]?=some (.agg [.str n2,.str p2,.slice nl2 [] (An rs2)]):=hat;have h118:=F118_eq (na:=nl) (nb:=nl2) (ta:=[]) (tb:=[]) hrl hlk.1 hpo.2.1 hlk.2.1 hpo.2.2 hlk.2.2;simp only at h118;cases h3:Dv rs rs2 with
        |false=>
         rw[h3]at h118;simp only[↓go1,gB0,simprocAttr,Aa s116,h116,Aa s117,h117n,h117p,ne_eq,Af,Ap,Aq,Qc,Qj,Qv,Qp,hp0,h1,h2,hi0,hat,Aa s118,h118];refine Ao.intro (Aj rfl) ?_;simp only[↓go1,gB3,simprocAttr,hp0,h1,h2];simp[setR];rfl
        |true=>
         rw[h3]at h118;simp only[↓go1,gB0,simprocAttr,Aa s116,h116,Aa s117,h117n,h117p,ne_eq,Af,Ap,Aq,Qc,Qj,Qv,Qp,hp0,h1,h2,hi0,hat,Aa s118,h118];refine Ao.intro (Aj rfl) ?_;simp only[↓go1,gB0,simprocAttr,Aa s119,h119,Af,Ap,Aq,Qc,hp0,h1,h2];simp[setR];rfl
    ·simp only[↓go1,gB0,simprocAttr,Aa s116,h116,ne_eq,Af,Ap,Aq,Qc,he];simp[setR];rfl
   ·cases h
  ·cases h
end Go.Vd
end
