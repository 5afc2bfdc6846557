/- A part of the proof; nothing in it is assumed. -/
import Derived.Test.YtfocnoaoekkloaaGreatDoorDecidesP3
import Derived.Shelf.Strings.Repeat

set_option linter.unusedSimpArgs false
set_option linter.unusedVariables false
set_option linter.defProp false
set_option maxHeartbeats 4000000
set_option maxRecDepth 100000
open Nat renaming reduceEqDiff→Qn,succ_ne_zero→Qp,le_of_ble_eq_true→Qq,reduceAdd→Qr,zero_ne_one→Qt,zero_add→Qu,zero_le→Qz,sub_zero→QE,reduceLT→QK,le_refl→QZ,le_succ_of_le→Zp,reduceLeDiff→Zw,lt_of_not_le→Zx,le_trans→ZJ,mul_add→ZP,add_zero→ZY
open List.cons renaming injEq→Qo
open List renaming getElem?_eq_getElem→Qs,length_cons→QA,getElem?_cons_zero→QB,length_nil→QD,getElem?_cons_succ→QG,take_of_length_le→QH,take_succ_cons→QI,length_append→QJ,take_zero→QL,map_cons→QO,getElem_mem→QQ,drop_zero→QR,map_nil→QS,head?_cons→QV,drop_succ_cons→QW,take_add_one→QX,mem_singleton→Q_,mem_cons→Q0,flatMap_cons→Q1,getElem?_eq_some_iff→Q2,flatMap_nil→Q4,all_cons→Q5,all_nil→Q6,all_eq_true→Q9,any_eq_true→Za,length_take→Zc,mem_map→Zd,nil_append→Ze,mem_nil_iff→Zf,isEmpty_iff→Zg,drop_eq_getElem_cons→Zh,append_nil→Zi,length_map→Zj,getD→Zl,map_map→Zn,take_succ_eq_append_getElem→Zo,not_mem_nil→Zq,any_append→Zs,append_inj→Zt,isEmpty_nil→Zv,drop_of_length_le→Zz,append_eq_nil_iff→ZA,map_append→ZC,mem_append→ZD,mem_append_right→ZE,mem_append_left→ZF,mem_cons_self→ZH,range→ZI,any_eq_false→ZK,append_assoc→ZL,map→ZM,take_length→ZN,length_drop→ZO,nil_suffix→ZQ,any_cons→ZU,take→ZX,length→Z_,drop→Z0
open Int renaming toNat_natCast→Qv,reduceEq→QM,toNat_of_nonneg→QY,tdiv_eq_ediv_of_nonneg→Zu,toNat_zero→ZS,lt_irrefl→ZV,toNat_one→ZW,le_refl→ZZ
open Go.Proofs.Tryz renaming prog→Qw
open Option renaming isSome_some→Qx,bind_some→Qy,getD_some→Zb,bind_eq_some_iff→Zm,map_eq_some_iff→Zy,map_some→ZB
open Bool renaming false_and→QC,true_or→QF,false_or→QN,or_true→QT,and_false→QU,and_eq_true→Q7,or_false→Q8,false_eq_true→Zk,and_self→ZG,and_assoc→ZR,true_and→ZT
open Option.some renaming injEq→QP
open Prod renaming ext→Q3
open Prod.mk renaming injEq→Zr
open Go.Proofs.Tryz
noncomputable section
namespace Go.Ve
open Go.Vd
open Go.Proofs Go.RowKit
def six:List UInt8:=[114,119,100,120,108,115]
def Fo(c:Nat):Nat->List UInt8
 |0=>[]
 |k+1=>Fo c k++(if c / 2 ^ k % 2=1 then [six.getD k 0]else [])
structure bBB (w0:World) (c k:Nat) (a:Act) (w:World):Prop where
 slots:∃x4 x5 x7 x8 x9 x10 x11 x12 x13 x14 x15 x16 x17:Value,a={tmps:=#[.int .u8 (c:Int),undef,.string ⟨#[]⟩,.pointer (some ⟨w0.heap.size,0,none⟩),x4,x5,.pointer (some ⟨w0.heap.size+1,0,none⟩),x7,x8,x9,x10,x11,x12,x13,x14,x15,x16,x17,undef],defers:=[]}
 iter:w.heap[w0.heap.size+1]?=some (.stringIter ⟨#[114,119,100,120,108,115]⟩ k)
 bld:Lib.IsBuilderF 322 5 w0.heap.size w0.heap.size (Lib.byteCells (Fo c k)) w
 bel:Below w0.heap.size w0 w
def cO{P:Program}{w:World}{b:Nat}{s:ByteArray}{y:Nat}{ty:TypeId}(h:w.heap[b]?=some (.stringIter s y))(g:y<s.size):
  (Instr.next (.pointer (some ⟨b,0,none⟩)) true ty).run P w= .ok (.tuple #[.bool true,.int .i64 (y:Nat),.int .i32 (Utf8.decode s y).1]) {w with heap:=w.heap.setIfInBounds b (.stringIter s (y+(Utf8.decode s y).2))}:=by
 have o:(getObj b).run P w= .ok (.stringIter s y) w:=by simp[getObj,Sem.run,h]
 have f:∀o',(setObj b o').run P w= .ok () {w with heap:=w.heap.setIfInBounds b o'}:=by intro o';simp[setObj,Sem.run,h]
 simp only[Instr.next,Sem.run_bind,o,Result.andThen_ok,g,if_true];cases hd:Utf8.decode s y with
 |mk c d=>
  simp only[f,Result.andThen_ok,Sem.run_pure];rfl
def Vj{P:Program}{w:World}{b:Nat}{s:ByteArray}{y:Nat}{ty:TypeId}(h:w.heap[b]?=some (.stringIter s y))(g:¬y<s.size):
  (Instr.next (.pointer (some ⟨b,0,none⟩)) true ty).run P w= .ok (.tuple #[.bool false]) w:=by
 have o:(getObj b).run P w= .ok (.stringIter s y) w:=by simp[getObj,Sem.run,h]
 simp only[Instr.next,Sem.run_bind,o,Result.andThen_ok,g,if_false,Sem.run_pure]
def aHI:∀k,k<6->Utf8.decode ⟨#[114,119,100,120,108,115]⟩ k=((six.getD k 0).toNat,1):=Xp
def aH2:∀c:Nat,c<64->∀k,k<6->(bits BinOp.and IntKind.u8 ((c:Int) / 2 ^ k) 1==1)=decide (c / 2 ^ k % 2=1):=Xp
def aA6:∀k,k<6->Lib.runeCells (((six[k]?.getD 0).toNat:Nat):Int)=Lib.byteCells [six.getD k 0]
 |0,_=>rfl
 |1,_=>rfl
 |2,_=>rfl
 |3,_=>rfl
 |4,_=>rfl
 |5,_=>rfl
 |k+6,h=>absurd h O
def Uo(c:Nat):∀k,(Fo c k).length<=k
 |0=>QZ _
 |k+1=>by
  have:=Uo c k;unfold Fo;rw[QJ];split<;>simp<;>omega
def OF{w:World}{d j:Nat}{o:Obj}(h:j≠d):(w.heap.setIfInBounds d o)[j]?=w.heap[j]?:=by
 grind
def aD3{w:World}{B b d:Nat}{bs:List Value}{o:Obj}{s:ByteArray}{p:Nat}(h:Lib.IsBuilderF 322 5 B b bs w)(hi:w.heap[d]?=some (.stringIter s p)):Lib.IsBuilderF 322 5 B b bs {w with heap:=w.heap.setIfInBounds d o}:=by
 have ia:∀q,Lib.BuilderAtF 322 5 B b q bs w->Lib.BuilderAtF 322 5 B b q bs {w with heap:=w.heap.setIfInBounds d o}:=by
  rintro q ⟨u,v,f,y,n⟩;have i:b≠d:=λe=>by rw[e,hi]at f;cases f
  refine⟨u,v,by show(w.heap.setIfInBounds d o)[b]?=_;rw[OF i];exact f,⟨y.1,?_⟩,n⟩;rcases y.2 with h|⟨g,cap,cur,fz,e1,e2,e3,e4⟩
  ·exact .inl h
  ·have hg:g≠d:=λe=>by rw[e,hi]at e3;cases e3
   exact .inr ⟨g,cap,cur,fz,e1,e2,by show(w.heap.setIfInBounds d o)[g]?=_;rw[OF hg];exact e3,e4⟩
 exact h.elim (λx=> .inl (ia _ x)) (λx=> .inr (ia _ x))
theorem yV {B d : Nat} {w v : World} {o : Obj} (h : Below B w v) (i : B ≤ d) : Below B w { v with heap := v.heap.setIfInBounds d o } :=
 ⟨h.os, h.tape, h.output, by show _ ≤ (v.heap.setIfInBounds d o).size; rw [Array.size_setIfInBounds]; exact h.size, fun k j => by
  show (v.heap.setIfInBounds d o)[k]? = _
  rw [OF O]
  exact h.block k j⟩
theorem aZG(w:World)(c:Nat)(x:c<64):
  Calls Qw 328 #[.int .u8 (c:Int)] w λe r=>e= .returned (.string ⟨(Fo c 6).toArray⟩)∧Below w.heap.size w r:=by
 have u:(w.alloc (Obj.cells #[Value.pointer none,Value.slice none 0 0] 322)).heap.size=w.heap.size+1:=Array.size_push _
 go_enter func328,ntmps328
 go_wp2
 refine Ma (λn a r=>∃k,k<=6∧n=6-k∧bBB w c k a r) ?_ (n:=6) ⟨0,O,rfl,⟨⟨_,_,_,_,_,_,_,_,_,_,_,_,_,rfl⟩,?_,?_,?_⟩⟩
 ·rintro n a v ⟨k,hk,rfl,⟨x4,x5,x7,x8,x9,g,i,j,h,p,q,l,m,rfl⟩,hi,hb,hB⟩
  go_wp2
  by_cases h6:k<6
  ·rw[cO hi (by show k<6;exact h6),aHI k h6];simp only[Result.andThen];rw[Oper.upon_value];have z:=aH2 c x k h6;have t:=Uo c k;have d:(v.heap.setIfInBounds (w.heap.size+1) (.stringIter ⟨#[114,119,100,120,108,115]⟩ (k+1)))[w.heap.size+1]?=some (.stringIter ⟨#[114,119,100,120,108,115]⟩ (k+1)):=by
    grind
   have s:=aD3 (o:= .stringIter ⟨#[114,119,100,120,108,115]⟩ (k+1)) hb hi;have f:=yV (o:= .stringIter ⟨#[114,119,100,120,108,115]⟩ (k+1)) hB (Nat.le_succ w.heap.size);by_cases b:c / 2 ^ k % 2=1
   ·rw[decide_eq_true b]at z
    go_wp2_with fail
    refine(Go.Proofs.Any.Builder_WriteRune_k bA aY w.heap.size w.heap.size (Lib.byteCells (Fo c k)) _ Qc Qc _ s (by simp[Lib.byteCells];omega) f.size).mono ?_;rintro e w3 ⟨rfl,y,pa,qb⟩;rw[aA6 k h6]at y
    go_wp2
    refine⟨6-(k+1),O,k+1,O,rfl,⟨⟨_,_,_,_,_,_,_,_,_,_,_,_,_,rfl⟩,?_,?_,f.trans pa⟩⟩
    ·exact qb _ _ d U (λ_ _=>U)
    ·refine .inr ?_;have e:Fo c (k+1)=Fo c k++[six.getD k 0]:=by simp only[Fo,b,if_true]
     rw[e];have e2:Lib.byteCells (Fo c k++[six.getD k 0])=Lib.byteCells (Fo c k)++Lib.byteCells [six.getD k 0]:=by simp[Lib.byteCells]
     rw[e2];exact y
   ·rw[decide_eq_false b]at z
    go_wp2_with fail
    refine⟨6-(k+1),O,k+1,O,rfl,⟨⟨_,_,_,_,_,_,_,_,_,_,_,_,_,rfl⟩,d,?_,f⟩⟩;have e:Fo c (k+1)=Fo c k:=by simp only[Fo,b,if_false,Zi]
    rw[e];exact s
  ·rw[Vj hi (by show ¬k<6;exact h6)];simp only[Result.andThen];rw[Oper.upon_value];obtain rfl:k=6:=by omega
   go_wp2_with fail
   refine(Go.Proofs.Any.Builder_String_any_f bB aY w.heap.size w.heap.size (Fo c 6) v hb hB.size).mono ?_;rintro e w3 ⟨rfl,_,pa⟩
   go_wp2
   go_ret
   exact⟨rfl,hB.trans pa⟩
 ·have e:=heap_alloc_new (w.alloc (Obj.cells #[Value.pointer none,Value.slice none 0 0] 322)) (.stringIter ⟨#[114,119,100,120,108,115]⟩ 0);rw[u]at e;exact e
 ·refine .inl ⟨QZ _,.slice none 0 0,?_,World.ownsRowF_nil _ _ _ _,by simp[Value.ownBlock]⟩;have:=heap_alloc_new w (Obj.cells #[Value.pointer none,Value.slice none 0 0] 322);exact(Below.heap_alloc _ _ _ (by rw[u];omega)).trans this
 ·exact((Below.refl _ w).alloc (QZ _) _).alloc (by rw[u];omega) _
def eqBs:List UInt8->List UInt8->Bool
 |[],[]=>true
 |a::r,b::s=>a==b&&eqBs r s
 |_,_=>false
def eqBs_eq:∀{a b:List UInt8},eqBs a b=true->a=b
 |[],[],_=>rfl
 |a::r,b::s,h=>by
  simp only[eqBs,Q7,beq_iff_eq]at h;rw[h.1,eqBs_eq h.2]
 |[],_::_,h=>Xd
 |_::_,[],h=>Xd
def lettersN(c:Nat):List UInt8:=
 (if c % 2=1 then [114]else [])++((if c / 2 % 2=1 then [119]else [])++((if c / 4 % 2=1 then [100]else [])++((if c / 8 % 2=1 then [120]else [])++((if c / 16 % 2=1 then [108]else [])++(if c / 32 % 2=1 then [115]else [])))))
theorem pick_letters:∀c:Nat,c<64->Fo c 6=lettersN c:=Xp
def lay_calls{c:Nat}(h:c<64)(w:World):Calls Qw 328 #[.int .u8 (c:Nat)] w λe n=>e= .returned (.string ⟨(lettersN c).toArray⟩)∧Below w.heap.size w n:=by
 grind [aZG,pick_letters]
end Go.Ve
namespace Go.Vd
open Go.Proofs Go.RowKit
def qZ:UH.ok Qw 221:=aCw aU aK ⟨_,func221,Xa,Xa⟩
def dU{m:Ig}{i fr:Id}{n:Nat}{l:List Bs}(f:n=l.length)(h:∀k x,l[k]?=some x->m i k=some (.str x))(u:l.length<=1000)(q:Cg l<=1000000):
  UH.ex ([.row i n,.str [44]]++[]) m fr=some (.str (BW l),[]):=by
 subst f;simp only[UH,Zi];rw[pD (j:=0) (λk x p=>by rw[Qu];exact h k x p),Qy,if_pos ⟨u,q⟩]
def RI.strs{r:Id}{m0 m:Ig}{l:List Bs}(h:RI [] r m0 m l l.length):∀k x,l[k]?=some x->m r k=some (.str x):=by
 intro k x p;have j:=(Q2.1 p).1;rw[h.row k j,if_pos j];simp[Zl,p]
def HH{l:List Bs}{b:Nat}(h:∀x∈l,x.length<=b):Cg l<=b*l.length:=by
 induction l with
 |nil=>simp[Cg]
 |cons x r ih=>
  have u:=h x (ZH ..);have q:=ih λy d=>h y (List.mem_cons_of_mem _ d)
  simp only[Cg,QA,ZP];omega
def FS(n:Nat):(BC n).length<=3:=by
 grind [BC]
def CG(l:List Int):List Bs:=l.map λx=>BC x.toNat
theorem DD(l:List Int):(CG l).length=l.length:=Zj ..
def aZv:List D->Option D:=FX (λp:Bool×List Int=>[.slice p.1 [] (AE p.2)]) (λp=>p.2.length<=1000∧∀x∈p.2,0<=x∧x<1000) (λp=> .str (BW (CG p.2)))
def aJ7{nl:Bool}{l:List Int}(h:l.length<=1000)(q:∀x∈l,0<=x∧x<1000):aZv [.slice nl [] (AE l)]=some (.str (BW (CG l))):=
 Bl (mk:=λp:Bool×List Int=>[.slice p.1 [] (AE p.2)]) (a:=(nl,l)) (λa b h=>by
  simp only[Qo,D.slice.injEq,true_and,and_true]at h;exact Q3 h.1 (Mn h.2)) ⟨h,q⟩
def aGP{S:Ic}{l:List Int}{nl:Bool}{m0:Ig}{Q:Ex->St->Prop}(i:l.length<=1000)(p:∀x∈l,0<=x∧x<1000)(d:S 346=some (Af aTd))
  (e:∀z,z.s 3= .row [3] l.length->RI [] [3] m0 z.m (CG l) l.length->Q (.exit 0) z):
  ∀(f j:Nat) z g,l.length=j+f->z.s 3= .row [3] l.length->z.s 9= .slice nl [] (AE l)->z.s 10= .int .i64 (l.length:Int)->z.s 11= .int .i64 (j:Int)->RI [] [3] m0 z.m (CG l) j->A2 S [] P2 Q z g:=by
 intro f;induction f with
 |zero=>
  intro j z g a o h9 la y I;refine Ae P2.eq_1 ?_;have:¬((j:Int)<l.length):=O
  simp only[↓C2,Ih,Ii,reduceIte,Qr,la,y,this];exact e _ o Ya
 |succ f ih=>
  intro j z g a o h9 la y I;refine Ae P2.eq_1 ?_;have k:j<l.length:=O
  have v:((j:Int)<l.length):=O
  have qa:=nJ (j:=j);have h:=wJ (j:=j) O;have ea:=p l[j] (QQ k);obtain⟨n,r⟩:∃n:Nat,l[j]=(n:Int):=⟨l[j].toNat,O⟩;have w:(AE l)[j]?=some (.int .i64 (n:Int)):=by simp[AE,Qs k,r]
  have hg:(CG l).getD j []=BC n:=by simp[CG,Qs k,r]
  have b:=W5 (n:=n) O;have q:=I.row j (by rw[DD];exact k);rw[if_neg O]at q;obtain⟨c,t,fa⟩:=z;simp only at o h9 la y q I;simp only[↓C2,Iw,Ii,reduceIte,Qn,Qr,o,h9,la,y,v,qa,h,Qv,w,q,Ab d,b,Ao,Ap,and_self,Qy,Qx,QV];refine ih (j+1) _ _ O o h9 la rfl ?_;rw[←hg];exact I.fill (ZQ)
def aUu:Kq aZv 348:=by
 obtain⟨S,q,w⟩:=A7 (Aa aK9 (Aa qZ Ad));have d:=w 346 _ rfl;have c:=w 221 _ rfl;clear w;refine Bo q (Ai func348:Fn Qw 348 24 aMt [.t 2]) (λ_=>U) (λp g=>?_);obtain⟨nl,l⟩:=p;obtain⟨w,o⟩:=g;simp only at w o;have v:((0:Int)<=(l.length:Int)):=O
 have s:((l.length:Int)*(((16:Nat):Int)+1)<=140737488355328)=True:=eq_true O;unfold aMt;simp only[↓C2,Iw,reduceIte,Qn,Qr,v,s,Bb,Qv,ZZ,and_self];refine aGP (l:=l) (nl:=nl) (m0:=λ_ _=>none) w o d (λz h3 I=>?_) l.length 0 _ _ O rfl rfl rfl rfl ?_
 ·simp only[↓C2,Ih,Ii,reduceIte,Qr,h3];rw[AN c];rw[←DD]at I;have j:Cg (CG l)<=1000000:=by
   have:=HH (l:=CG l) (b:=3) λx o=>by
    obtain⟨y,_,rfl⟩:=Zd.1 o;exact FS _
   rw[DD]at this;omega
  refine aI (dU (DD l).symm I.strs (by rw[DD];exact w) j) ?_;simp only[↓C2,Ij,reduceIte,Qn,Qr]
  all_goals exact Qj
 ·grind [RI.start,DD]
open Classical in
def aJ9:List D->Option D
 |[.int .u8 c]=>if 0<=c∧c<64 then some (.str (Go.Ve.lettersN c.toNat))else none
 |_=>none
def aUy:Kq aJ9 328:=by
 refine⟨⟨_,func328,Xa,Xa⟩,λds m m' fr _=>rfl,?_⟩;intro B w0 w m g fr ds vs r u hi o z f y;simp only[Af]at y;split at y
 ·rw[Zy]at y;obtain⟨s,q,y⟩:=y;simp only[Zr]at y;obtain⟨rfl,rfl⟩:=y;unfold aJ9 at q;split at q
  ·rename_i c e;split at q
   ·rename_i k;simp only[QP]at q;subst q
    match ds,vs,z with
    |[d],[v],_=>
     have l:d= .int .u8 c:=by
      simp only[QO,QS,Qo,and_true]at e;cases d<;>simp[D.un]at e;rw[e.1,e.2]
     subst l;have t:=(f 0 _ v rfl rfl).int_inv;subst t;have x:((c.toNat:Nat):Int)=c:=QY k.1;have:=Go.Ve.lay_calls (c:=c.toNat) O w;rw[x]at this;refine this.mono ?_;rintro e n ⟨rfl,j⟩;exact⟨_,g.over w n,rfl,hi.over j,IF.over hi.gz j,.str _,λi a _=>a⟩
    |[],_,_=>simp at e
    |_::_::_,_,_=>simp at e
   ·cases q
  ·cases q
 ·cases y
def Pm{l:List Rl}:∀f j,DN l f j=0->∀i,j<=i->i<j+f->i<l.length->(BL l i).2<=63
 |0,j,_,i,h1,h2,_=>O
 |f+1,j,h,i,h1,h2,hi=>by
  unfold DN at h;rw[if_pos O]at h;split at h
  ·omega
  ·rename_i k;rcases Nat.eq_or_lt_of_le h1 with rfl|h1
   ·grind [Hi,BL]
   ·exact Pm f (j+1) h i O O hi
def Mk{l:List Rl}(h:CT l=0):l.length<=4∧∀r∈l,r.2<=63:=by
 unfold CT at h;split at h
 ·cases h
 ·refine⟨O,λr y=>?_⟩;obtain⟨i,hi,rfl⟩:=List.getElem_of_mem y;have:=Pm l.length 0 h i (Qz _) O hi;simpa[BL,Qs hi]using this
def FM(r:Rl):Bs:=r.1++[58]++Go.Ve.lettersN r.2.toNat
def BD(l:List Rl):List Bs:=l.map FM
theorem CA(l:List Rl):(BD l).length=l.length:=Zj ..
def Ds(n:Nat):(Go.Ve.lettersN n).length<=6:=by
 unfold Go.Ve.lettersN;have h:∀(c:Prop)[Decidable c](x:UInt8),(if c then [x]else []).length<=1:=by
  intro c _ x;split<;>simp
 simp only[QJ];have u:=h (n % 2=1) 114;have q:=h (n / 2 % 2=1) 119;have o:=h (n / 4 % 2=1) 100;have b:=h (n / 8 % 2=1) 120;have m:=h (n / 16 % 2=1) 108;have k:=h (n / 32 % 2=1) 115;omega
def aG1{S:Ic}{l:List Rl}{nl:Bool}{m0:Ig}{Q:Ex->St->Prop}(i:l.length<=4)(p:∀r∈l,r.1.length<=1000∧0<=r.2∧r.2<64)(h:S 328=some (Af aJ9))
  (e:∀z,z.s 5= .row [9] l.length->RI [] [9] m0 z.m (BD l) l.length->Q (.exit 0) z):
  ∀(f j:Nat) z g,l.length=j+f->10<=z.c->z.s 5= .row [9] l.length->z.s 16= .slice nl [] (Aj l)->z.s 17= .int .i64 (l.length:Int)->z.s 18= .int .i64 (j:Int)->RI [] [9] m0 z.m (BD l) j->A2 S [] Rk Q z g:=by
 intro f;induction f with
 |zero=>
  intro j z g hf k h5 ta u la I;refine Ae Rk.eq_1 ?_;have:¬((j:Int)<l.length):=O
  simp only[↓C2,Ih,Ii,reduceIte,Qr,u,la,this];exact e _ h5 Ya
 |succ f ih=>
  intro j z g hf k h5 ta u la I;refine Ae Rk.eq_1 ?_;have y:j<l.length:=O
  have v:((j:Int)<l.length):=O
  have x:=nJ (j:=j);have hw:=wJ (j:=j) O;obtain⟨na,ra,d⟩:=p l[j] (QQ y);have w:(Aj l)[j]?=some (.agg [.str l[j].1,.int .u8 l[j].2]):=by simp[Aj,iM,Qs y]
  have hg:(BD l).getD j []=FM l[j]:=by simp[BD,Qs y]
  generalize l[j]=r at na ra d w hg;have a:aJ9 [.int .u8 r.2]=some (.str (Go.Ve.lettersN r.2.toNat)):=if_pos ⟨ra,d⟩;have q:=I.row j (by rw[CA];exact y);rw[if_neg O]at q;have xa:=Ds r.2.toNat;have l1:(r.1.length+1<=9223372036854775807)=True:=eq_true O;have l2:(r.1.length+1+(Go.Ve.lettersN r.2.toNat).length<=9223372036854775807)=True:=eq_true O;have b:([z.c+1+3]=([9]:Id))=False:=eq_false Xc;have n:(([9]:Id)=[z.c+1+3])=False:=eq_false Xc;obtain⟨ja,t,o⟩:=z;simp only at h5 ta u la q I k b n;simp only[↓C2,Is,reduceIte,Qn,Qr,h5,ta,u,la,v,x,Qv,w,q,Ab h,a,n,l1,l2,QZ,QJ,Ag,Ao,Ap,QK,Qy,QI,QL,Qx,false_and];refine Al ?_;simp only[↓C2,Ih,IM,reduceIte,Qn,Qr,la,hw];refine ih (j+1) _ _ O Xb h5 ta u rfl ?_;have sa:r.1++[58]++Go.Ve.lettersN r.2.toNat=(BD l).getD j []:=hg.symm;rw[sa];exact((I.put Xc).put Xc).fill (ZQ)
def oN:List D->Option D:=FX (λp:Bool×List Rl=>[.slice p.1 [] (Aj p.2)]) (λp=>p.2.length<=1000000∧∀r∈p.2,r.1.length<=1000∧0<=r.2)
 (λp=> .tup [.str (if CT p.2=0 then BW (BD p.2)else []),.int .i64 (CT p.2)])
def W8{nl:Bool}{l:List Rl}(h:l.length<=1000000)(q:∀r∈l,r.1.length<=1000∧0<=r.2):oN [.slice nl [] (Aj l)]=some (.tup [.str (if CT l=0 then BW (BD l)else []),.int .i64 (CT l)]):=
 Bl (mk:=λp:Bool×List Rl=>[.slice p.1 [] (Aj p.2)]) (a:=(nl,l)) (λa b h=>by
  simp only[Qo,D.slice.injEq,true_and,and_true]at h;exact Q3 h.1 (Ls h.2)) ⟨h,q⟩
open Classical in
def Oy{nl:Bool}{l:List Rl}(h:l.length<=1000000)(q:∀r∈l,r.1.length<=1000∧0<=r.2):aAa [.slice nl [] (Aj l)]=some (.int .i64 (CT l)):=by
 have k:Aj l=Aj (Br (Aj l))∧(Aj l).length<=1000000∧Ca (Br (Aj l)):=by
  rw[A_,Aw];exact⟨rfl,h,λr y=>ZJ (q r y).1 O⟩
 show(if _ then _ else _)=_;rw[if_pos k,A_]
def aLj:Kq oN 232:=by
 obtain⟨S,hS,w⟩:=A7 (Aa qC (Aa aUy (Aa qZ Ad)));have ia:=w 214 _ rfl;have h:=w 328 _ rfl;have c:=w 221 _ rfl;clear w;refine Bo hS (Ai func232:Fn Qw 232 36 aNN [.t 2,.t 3]) (λ_=>U) (λp g=>?_);obtain⟨nl,l⟩:=p;obtain⟨w,o⟩:=g;simp only at w o;have a:=Oy (nl:=nl) w o;have hz:=Mk (l:=l);simp only;unfold aNN;generalize CT l=e at a hz;by_cases j:e=0
 ·subst j;obtain⟨n,s⟩:=hz rfl;have v:((0:Int)<=(l.length:Int)):=by omega
  have ra:((l.length:Int)*(((16:Nat):Int)+1)<=140737488355328)=True:=eq_true O;simp only[↓C2,Iw,Ii,reduceIte,Qn,Qr,Ab ia,a,v,ra,Aw,Qv,ZZ,and_self];refine aG1 (l:=l) (nl:=nl) (m0:=λ_ _=>none) n (λr hr=>⟨(o r hr).1,(o r hr).2,by have:=s r hr;omega⟩) h (λz h5 I=>?_) l.length 0 _ _ O Xb rfl rfl rfl rfl ?_
  ·simp only[↓C2,Ih,Ii,reduceIte,Qr,h5];rw[AN c];rw[←CA]at I;have m:Cg (BD l)<=1000000:=by
    have:=HH (l:=BD l) (b:=1007) λx oa=>by
     obtain⟨y,d,rfl⟩:=Zd.1 oa;have u:=(o y d).1;have q:=Ds y.2.toNat;simp only[FM,QJ,QA,QD];omega
    rw[CA]at this;omega
   refine aI (dU (CA l).symm I.strs (by rw[CA];omega) m) ?_;simp only[↓C2,Ij,reduceIte,Qn,Qr]
   all_goals exact Qj
  ·grind [RI.start,CA]
 ·simp only[↓C2,Ij,reduceIte,Qn,Qr,Ab ia,a,j,and_self]
  all_goals exact Qj
def aON:=y0 f151 [] []
def aOM:=y0 f152 [] []
def aOL:=y0 f153 [] []
def aOK:=y0 f154 [] []
def RC:=y1 f155 4 [] []
def aOJ:=y0 f155 [] [(4,RC)]
def aNl:=y0 Tryz.f263 [] []
def VZ:=y1 f68 7 [] []
def aYa:=y0 f68 [] [(7,VZ)]
def U0{s:Bs}{p:Nat}{c:UInt8}(h:s[p]?=some c)(k:c.toNat<128):Utf8.decode ⟨s.toArray⟩ p=(c.toNat,1):=by
 have g:=(Q2.1 h).1;have q:at' s p=c.toNat:=by simp[at',h]
 unfold Utf8.decode;simp only[VS,ZY,q,k,if_true]
def Fr:List (Bs×Bs):=[([],[]),([115,116,97,116,117,115],[]),([117,110,115,101,97,108],[107]),([115,101,97,108],[116]),([114,111,116,97,116,101],[116]),([109,111,117,110,116],[116,112,110,102]),([117,110,109,111,117,110,116],[116,112]),([109,97,107,101],[116,109,114]),([114,101,118,111,107,101],[116,109]),([114,101,97,100],[116,112,110]),([119,114,105,116,101],[116,112,99,100]),([100,101,108,101,116,101],[116,112,108]),([117,110,100,101,108,101,116,101],[116,112,108]),([100,101,115,116,114,111,121],[116,112,108]),([109,101,116,97],[116,112]),([99,111,110,102,105,103],[116,112,110,102]),([112,117,114,103,101],[116,112]),([108,105,115,116],[116,112]),([99,111,112,121],[116,112,113])]
def DK(op:Int):Bs:=(Fr.getD op.toNat ([],[])).1
def B8(op:Int):Bs:=(Fr.getD op.toNat ([],[])).2
def aCC(p:Bs×Bs):Option D->Bool
 |some (.agg [.str a,.str b])=>Go.Ve.eqBs a p.1&&Go.Ve.eqBs b p.2
 |_=>false
def aJI:List D->Option D:=H3 (λ_=>none) 30 aON [.cell (some 2) 2] 60
def aLr:Kq aJI 151:=FH AI (Ai func151:Fn Qw 151 30 aON [.cell (some 2) 2]) 60
def aEO:(ZI 256).all (λop=>aCC (Fr.getD op ([],[])) (aJI [.int .u8 (op:Nat)]))=true:=Xa
def tK{op:Int}(m:0<=op)(h:op<256):aJI [.int .u8 op]=some (.agg [.str (DK op),.str (B8 op)]):=by
 have:=Q9.1 aEO op.toNat Xc;rw[QY m]at this;unfold DK B8;generalize aJI [.int .u8 op]=r at this;unfold aCC at this;split at this
 ·rw[Q7]at this;rw[Go.Ve.eqBs_eq this.1,Go.Ve.eqBs_eq this.2]
 ·cases this
structure ID (a:Ak):Prop where
 op0:0<=a.op
 op:a.op<256
 tk:a.tk.length<=1000
 pa:a.pa.length<=1000
 ot:a.ot.length<=1000
 ns:a.ns.length<=1000
 da:a.da.length<=1000
 rl:a.rs.length<=1000
 rs:∀r∈a.rs,r.1.length<=1000∧0<=r.2
 key:a.key.length<=1000
def BI(a:Ak)(c:Int):Int:=if c=116 then GD (BV a.tk)else if c=109 then GD (BV a.ot)else if c=112 then Bf a.pa else if c=113 then Bf a.ot else if c=110 then GD (decide (0<=a.n∧a.n<=999))else if c=99 then GD (decide (-1<=a.cas∧a.cas<=999))else if c=108 then GD (countB a.ns)else if c=114 then CT a.rs else if c=107 then GD (decide ((a.key.length:Int)=16))else 0
def aKM:List D->Option D:=FX (λp:Ak×Int=>[IB p.1,.int .i32 p.2]) (λp=>ID p.1) (λp=> .int .i64 (BI p.1 p.2))
def aKL{a:Ak}{c:Int}(h:ID a):aKM [IB a,.int .i32 c]=some (.int .i64 (BI a c)):=
 Bl (mk:=λp:Ak×Int=>[IB p.1,.int .i32 p.2]) (a:=(a,c)) (λx y e=>by
  simp only[Qo,D.int.injEq,true_and,and_true]at e;exact Q3 (DF e.1) e.2) h
def aVq:Kq aKM 152:=by
 obtain⟨S,hS,w⟩:=A7 (Aa aUV (Aa aUW (Aa qE (Aa aLh (Aa aUU (Aa qC Ad))))));have f:=w 258 _ rfl;have d:=w 257 _ rfl;have da:=w 201 _ rfl;have e:=w 259 _ rfl;have g:=w 260 _ rfl;have ia:=w 214 _ rfl;clear w;refine Bo hS (Ai func152:Fn Qw 152 58 aOM [.t 4]) (λ_=>U) (λp hp=>?_);obtain⟨a,c⟩:=p;simp only at hp;have hT:=tW (s:=a.tk) (by have:=hp.tk;omega);have hO:=tW (s:=a.ot) (by have:=hp.ot;omega);have hP:iJ [.str a.pa]=some (.int .i64 (Bf a.pa)):=if_pos (by have:=hp.pa;omega);have hQ:iJ [.str a.ot]=some (.int .i64 (Bf a.ot)):=if_pos (by have:=hp.ot;omega);have hN:Ph [.int .i64 a.n,.int .i64 0,.int .i64 999]=some (.bool (decide (0<=a.n∧a.n<=999))):=rfl;have hC:Ph [.int .i64 a.cas,.int .i64 (-1),.int .i64 999]=some (.bool (decide (-1<=a.cas∧a.cas<=999))):=rfl;have hL:=tV (nl:=a.nln) (l:=a.ns) (by have:=hp.ns;omega);have hR:=Oy (nl:=a.nlr) (l:=a.rs) (by have:=hp.rl;omega) hp.rs;unfold BI aOM IB It;simp only;by_cases y:c=116
 ·subst y;simp only[↓C2,Is,simprocAttr,Ab f,hT,Ab d,IP,Ag]
  all_goals exact Qj
 have i:decide (c=116)=false:=X0
 by_cases x:c=109
 ·subst x;simp only[↓C2,Is,simprocAttr,Ab f,hO,Ab d,IP,Ag]
  all_goals exact Qj
 have q:decide (c=109)=false:=XB
 by_cases ga:c=112
 ·subst ga;simp only[↓C2,Is,simprocAttr,Ab da,hP,Ag]
  all_goals exact Qj
 have j:decide (c=112)=false:=by simpa using ga
 by_cases v:c=113
 ·subst v;simp only[↓C2,Is,simprocAttr,Ab da,hQ,Ag]
  all_goals exact Qj
 have h:decide (c=113)=false:=by simpa using v
 by_cases fa:c=110
 ·subst fa;simp only[↓C2,Is,simprocAttr,Ab e,hN,Ab d,IP,Ag]
  all_goals exact Qj
 have r:decide (c=110)=false:=by simpa using fa
 by_cases ja:c=99
 ·subst ja;simp only[↓C2,Is,simprocAttr,Ab e,hC,Ab d,IP,Ag]
  all_goals exact Qj
 have u:decide (c=99)=false:=by simpa using ja
 by_cases h108:c=108
 ·subst h108;simp only[↓C2,Is,simprocAttr,Ab g,hL,Ab d,IP,Ag]
  all_goals exact Qj
 have k:decide (c=108)=false:=by simpa using h108
 by_cases z:c=114
 ·subst z;simp only[↓C2,Is,simprocAttr,Ab ia,hR,Ag]
  all_goals exact Qj
 have m:decide (c=114)=false:=XP
 by_cases b:c=107
 ·subst b;simp only[↓C2,Is,simprocAttr,Ab d,IP,Ag]
  all_goals exact Qj
 have o:decide (c=107)=false:=XT
 simp only[↓C2,Ij,simprocAttr,y,x,ga,v,fa,ja,h108,z,b,Qu,and_self]
 all_goals exact Qj
def Bk(a:Ak)(c:Int):Ak:=if c=116 then {a with tk:=[]}else if c=112 then {a with pa:=[]}else if c=109∨c=113 then {a with ot:=[]}else if c=110 then {a with n:=0}else if c=99 then {a with cas:=0}else if c=102 then {a with fl:=false}else if c=108 then {a with nln:=true,ns:=[]}else if c=100 then {a with da:=[]}else if c=114 then {a with nlr:=true,rs:=[]}else if c=107 then {a with key:=[]}else a
def aKK:List D->Option D:=FX (λp:Ak×Int=>[IB p.1,.int .i32 p.2]) (λp=>True) (λp=>IB (Bk p.1 p.2))
def aKJ{a:Ak}{c:Int}:aKK [IB a,.int .i32 c]=some (IB (Bk a c)):=
 Bl (mk:=λp:Ak×Int=>[IB p.1,.int .i32 p.2]) (a:=(a,c)) (λx y e=>by
  simp only[Qo,D.int.injEq,true_and,and_true]at e;exact Q3 (DF e.1) e.2) trivial
def aVp:Kq aKK 153:=by
 refine Bo (S:=λ_=>none) AI (Ai func153:Fn Qw 153 38 aOL [.cell (some 11) 4]) (λ_=>U) (λp g=>?_);obtain⟨a,c⟩:=p;unfold Bk aOL IB It;simp only;by_cases y:c=116
 ·subst y;simp only[↓C2,Is,simprocAttr,or_self,Ag,Ao,Ap,Qy,Qx,Qo,Qt,and_false,Qp,BA,A6]
  all_goals exact Qj
 by_cases d:c=112
 ·subst d;simp only[↓C2,Is,simprocAttr,or_self,Ag,Ao,Ap,Qy,Qx,Qo,Qt,and_false,Qp,BA,A6]
  all_goals exact Qj
 by_cases x:c=109
 ·subst x;simp only[↓C2,Is,simprocAttr,true_or,Ag,Ao,Ap,Qy,Qx,Qo,Qt,and_false,Qp,BA,A6]
  all_goals exact Qj
 by_cases v:c=113
 ·subst v;simp only[↓C2,Is,simprocAttr,or_true,Ag,Ao,Ap,Qy,Qx,Qo,Qt,and_false,Qp,BA,A6]
  all_goals exact Qj
 by_cases o:c=110
 ·subst o;simp only[↓C2,Is,simprocAttr,or_self,Ag,Ao,Ap,Qy,Qx,Qo,Qt,and_false,Qp,BA,A6]
  all_goals exact Qj
 by_cases i:c=99
 ·subst i;simp only[↓C2,Is,simprocAttr,or_self,Ag,Ao,Ap,Qy,Qx,Qo,Qt,and_false,Qp,BA,A6]
  all_goals exact Qj
 by_cases f:c=102
 ·subst f;simp only[↓C2,Is,simprocAttr,or_self,Ag,Ao,Ap,Qy,Qx,Qo,Qt,and_false,Qp,BA,A6]
  all_goals exact Qj
 by_cases h108:c=108
 ·subst h108;simp only[↓C2,Is,simprocAttr,or_self,Ag,Ao,Ap,Qy,Qx,Qo,Qt,and_false,Qp,BA,A6]
  all_goals exact Qj
 by_cases e:c=100
 ·subst e;simp only[↓C2,Is,simprocAttr,or_self,Ag,Ao,Ap,Qy,Qx,Qo,Qt,and_false,Qp,BA,A6]
  all_goals exact Qj
 by_cases n:c=114
 ·subst n;simp only[↓C2,Is,simprocAttr,or_self,Ag,Ao,Ap,Qy,Qx,Qo,Qt,and_false,Qp,BA,A6]
  all_goals exact Qj
 by_cases b:c=107
 ·subst b;simp only[↓C2,Is,simprocAttr,or_self,Ag,Ao,Ap,Qy,Qx,Qo,Qt,and_false,Qp,BA,A6]
  all_goals exact Qj
 simp only[↓C2,Is,simprocAttr,y,d,x,v,o,i,f,h108,e,n,b,or_self,Ag,Ao,Ap,Qy,Qx,Qo,Qt,Qp,BA,A6]
 all_goals exact Qj
def orN(s:Bs):Bs:=if s=[]then [45]else s
def Fi(a:Ak)(c:Int):Bs:=if c=116 then a.tk else if c=112 then a.pa else if c=109∨c=113 then a.ot else if c=110 then BC a.n.toNat else if c=99 then(if a.cas=-1 then [45]else BC a.cas.toNat)
 else if c=102 then(if a.fl=true then [49]else [48])else if c=108 then orN (BW (CG a.ns))else if c=100 then orN (Lj a.da)else if c=114 then orN (if CT a.rs=0 then BW (BD a.rs)else [])else Lj a.key
structure L7 (a:Ak) (c:Int):Prop where
 n:c=110->0<=a.n∧a.n<1000
 cas:c=99->-1<=a.cas∧a.cas<1000
 ns:c=108->∀x∈a.ns,0<=x∧x<1000
def aKj:List D->Option D:=FX (λp:Ak×Int=>[IB p.1,.int .i32 p.2]) (λp=>ID p.1∧L7 p.1 p.2) (λp=> .str (Fi p.1 p.2))
def aKi{a:Ak}{c:Int}(h:ID a)(q:L7 a c):aKj [IB a,.int .i32 c]=some (.str (Fi a c)):=
 Bl (mk:=λp:Ak×Int=>[IB p.1,.int .i32 p.2]) (a:=(a,c)) (λx y e=>by
  simp only[Qo,D.int.injEq,true_and,and_true]at e;exact Q3 (DF e.1) e.2) ⟨h,q⟩
def aUR:Kq aKj 263:=by
 obtain⟨S,hS,w⟩:=A7 (Aa aK9 (Aa aUv (Aa aUu (Aa aLc (Aa aLj Ad)))));have d:=w 346 _ rfl;have h:=w 347 _ rfl;have o:=w 348 _ rfl;have j:=w 317 _ rfl;have k:=w 232 _ rfl;clear w;refine Bo hS (Ai func263:Fn Qw 263 63 aNl [.t 4]) (λ_=>U) (λp hp=>?_);obtain⟨a,c⟩:=p;obtain⟨hp,hN,hC,hL⟩:=hp;simp only at hp hN hC hL;unfold Fi orN aNl IB It;simp only;by_cases y:c=116
 ·subst y;simp only[↓C2,Is,simprocAttr,or_self,Ag]
  all_goals exact Qj
 by_cases r:c=112
 ·subst r;simp only[↓C2,Is,simprocAttr,or_self,Ag]
  all_goals exact Qj
 by_cases x:c=109
 ·subst x;simp only[↓C2,Is,simprocAttr,true_or,Ag]
  all_goals exact Qj
 by_cases v:c=113
 ·subst v;simp only[↓C2,Is,simprocAttr,or_true,Ag]
  all_goals exact Qj
 by_cases q:c=110
 ·subst q;have hn:=hN rfl;obtain⟨n,qa⟩:∃n:Nat,a.n=(n:Int):=⟨a.n.toNat,O⟩;have b:=W5 (n:=n) O;rw[qa];simp only[↓C2,Is,simprocAttr,Ab d,b,Qv,or_self,Ag]
  all_goals exact Qj
 by_cases ja:c=99
 ·subst ja;have hc:=hC rfl;by_cases u:a.cas=-1
  ·rw[u];simp only[↓C2,Is,simprocAttr,or_self,Ag]
   all_goals exact Qj
  ·obtain⟨n,qa⟩:∃n:Nat,a.cas=(n:Int):=⟨a.cas.toNat,O⟩;have b:=W5 (n:=n) O;rw[qa]at u ⊢;simp only[↓C2,Is,simprocAttr,u,Ab d,b,Qv,or_self,Ag]
   all_goals exact Qj
 by_cases f:c=102
 ·subst f;cases a.fl<;>simp only[↓C2,Is,simprocAttr,or_self,Ag]
  all_goals exact Qj
 by_cases h108:c=108
 ·subst h108;have w:=hL rfl;have m:=aJ7 (nl:=a.nln) (l:=a.ns) hp.ns w;simp only[↓C2,Is,simprocAttr,Ab o,m,Ab h,W4,or_self,Ag]
  all_goals exact Qj
 by_cases e:c=100
 ·subst e;have i:=MB (s:=a.da) (by have:=hp.da;omega);simp only[↓C2,Is,simprocAttr,Ab j,i,Ab h,W4,or_self,Ag]
  all_goals exact Qj
 by_cases z:c=114
 ·subst z;have g:=W8 (nl:=a.nlr) (l:=a.rs) (by have:=hp.rl;omega) hp.rs;simp only[↓C2,Is,simprocAttr,Ab k,g,Ab h,W4,or_self,Ag]
  all_goals exact Qj
 have i:=MB (s:=a.key) (by have:=hp.key;omega);simp only[↓C2,Is,simprocAttr,Ab j,i,y,r,x,v,q,ja,f,h108,e,z,or_self,Ag]
 all_goals exact Qj
def NJ(a:Ak):Bool:=a.ns.isEmpty&&(a.rs.isEmpty&&(decide (a.op=0)&&(decide (a.tk=[])&&(decide (a.pa=[])&&(decide (a.ot=[])&&(decide (a.n=0)&&(decide (a.cas=0)&&(!a.fl&&(decide (a.da=[])&&decide (a.key=[]))))))))))
def ak0:Ak:=⟨0,[],[],[],0,0,false,true,[],[],true,[],[]⟩
def aTo:List D->Option D:=FX (λa:Ak=>[IB a,IB ak0]) (λa=>ID a) (λa=> .bool (NJ a))
def aKI{a:Ak}(h:ID a):aTo [IB a,IB ak0]=some (.bool (NJ a)):=
 Bl (mk:=λa:Ak=>[IB a,IB ak0]) (λx y e=>by
  simp only[Qo,and_true]at e;exact DF e) h
def aUS:Kq aKk 262:=by
 obtain⟨S,v,w⟩:=A7 (Aa aUw Ad);have b:=w 345 _ rfl;clear w;refine Bo v (Ai func262:Fn Qw 262 8 aNm [.t 4]) (λ_=>U) (λp j=>?_);have a:=W6 (nl:=p.1) (nl':=p.2.2) (l:=p.2.1) j;unfold aNm;by_cases o:(([D.slice p.1 [] p.2.1,.slice p.2.2 [] []]:List D).map D.un).all D.calm=true
 ·simp only[↓C2,Ij,simprocAttr,Ab b,a,and_self]
  all_goals exact Qj
 ·exact absurd rfl o
def aVo:Kq aTo 154:=by
 obtain⟨S,v,w⟩:=A7 (Aa aUT (Aa aUS Ad));have d:=w 261 _ rfl;have e:=w 262 _ rfl;clear w;refine Bo v (Ai func154:Fn Qw 154 82 aOK [.t 4]) (λ_=>U) (λa g=>?_);have b:=W6 (nl:=a.nln) (nl':=true) (l:=AE a.ns) (by rw[Bb];have:=g.ns;omega);have c:=W6 (nl:=a.nlr) (nl':=true) (l:=Aj a.rs) (by rw[Aw];have:=g.rl;omega);have e1:(AE a.ns).isEmpty=a.ns.isEmpty:=by cases a.ns<;>rfl
 have e2:(Aj a.rs).isEmpty=a.rs.isEmpty:=by cases a.rs<;>rfl
 rw[e1]at b;rw[e2]at c;unfold NJ aOK IB It ak0;simp only;generalize a.ns.isEmpty=o at b;generalize a.rs.isEmpty=m at c;have n1:AE ([]:List Int)=[]:=rfl;have n2:Aj ([]:List Rl)=[]:=rfl;cases o with
 |false=>
  simp only[↓C2,Is,simprocAttr,n1,n2,Ab d,b,QC,Ag,Qo,Qt,Qp]
  all_goals exact Qj
 |true=>
  cases m with
  |false=>
   simp only[↓C2,Is,simprocAttr,n1,n2,Ab d,b,Ab e,c,QC,QU,Ag,Qo,Qt,Qp]
   all_goals exact Qj
  |true=>
   simp only[ZT];by_cases z:a.op=0
   ·by_cases i:a.tk=[]
    ·by_cases s:a.pa=[]
     ·by_cases k:a.ot=[]
      ·by_cases f:a.n=0
       ·by_cases r:a.cas=0
        ·cases g7:a.fl with
         |false=>
          by_cases x:a.da=[]
          ·simp only[↓C2,Is,simprocAttr,n1,n2,Ab d,b,Ab e,c,Ag,Qo,Qt,Qp,z,i,s,k,f,r,x]
           trace_state
           all_goals exact Qj
          ·simp only[↓C2,Is,simprocAttr,n1,n2,Ab d,b,Ab e,c,QC,QU,Ag,Qo,Qt,Qp,z,i,s,k,f,r,x]
           all_goals exact Qj
         |true=>
          simp only[↓C2,Is,simprocAttr,n1,n2,Ab d,b,Ab e,c,QC,QU,Ag,Qo,Qt,Qp,z,i,s,k,f,r]
          all_goals exact Qj
        ·simp only[↓C2,Is,simprocAttr,n1,n2,Ab d,b,Ab e,c,QC,QU,Ag,Qo,Qt,Qp,z,i,s,k,f,r]
         all_goals exact Qj
       ·simp only[↓C2,Is,simprocAttr,n1,n2,Ab d,b,Ab e,c,QC,QU,Ag,Qo,Qt,Qp,z,i,s,k,f]
        all_goals exact Qj
      ·simp only[↓C2,Is,simprocAttr,n1,n2,Ab d,b,Ab e,c,QC,QU,Ag,Qo,Qt,Qp,z,i,s,k]
       all_goals exact Qj
     ·simp only[↓C2,Is,simprocAttr,n1,n2,Ab d,b,Ab e,c,QC,QU,Ag,Qo,Qt,Qp,z,i,s]
      all_goals exact Qj
    ·simp only[↓C2,Is,simprocAttr,n1,n2,Ab d,b,Ab e,c,QC,QU,Ag,Qo,Qt,Qp,z,i]
     all_goals exact Qj
   ·simp only[↓C2,Is,simprocAttr,n1,n2,Ab d,b,Ab e,c,QC,Ag,Qo,Qt,Qp,z]
    all_goals exact Qj
theorem AT{m:Ig}{i j:Id}{o:Nat}{ds:List D}(h:j≠i):∀{n p:Nat},Ah (m.put i o ds) j p n=Ah m j p n
 |0,p=>rfl
 |n+1,p=>by
  simp only[Ah,aA h];rw[AT h]
theorem Vs{i:Id}:∀{ds:List D} {m:Ig} {p:Nat},(∀k d,ds[k]?=some d->m i (p+k)=some d)->Ah m i p ds.length=some ds
 |[],m,p,_=>rfl
 |d::r,m,p,h=>by
  have f:=h 0 d rfl;rw[ZY]at f;have y:=Vs (ds:=r) (m:=m) (p:=p+1) λk x o=>by
   have:=h (k+1) x Xy;rw[show p+1+k=p+(k+1)by omega];exact this
  simp only[QA,Ah,f,y,ZB]
theorem AX{m:Ig}{i:Id}{ds:List D}{n:Nat}(h:ds.length=n):Ah (m.put i 0 ds) i 0 n=some ds:=by
 grind [Vs,Ag]
def Mj{m:Ig}{i:Id}{o:Nat}:Ah m i o 1=(m i o).map λd=>[d]:=by
 grind [Ah]
def Bp(a:Ak):(It a).map D.un1=It a:=rfl
def Bq(a:Ak):(It a).all D.calm1=true:=rfl
def AA(a:Ak):D.cells (.agg (It a))=It a:=rfl
theorem AQ(a:Ak):(It a).length=11:=rfl
def N3{a:Ak}{c:Int}(h:ID a):(Fi a c).length<=100000:=by
 obtain⟨_,_,u,q,o,e,m,k,w,t⟩:=h;have n1:=FS a.n.toNat;have n2:=FS a.cas.toNat;have i:∀s:Bs,s.length<=100000->(orN s).length<=100000:=by
  grind [orN]
 have g:(BW (CG a.ns)).length<=100000:=by
  have e1:=EK (CG a.ns);have e2:=HH (l:=CG a.ns) (b:=3) λx p=>by
   obtain⟨y,_,rfl⟩:=Zd.1 p;exact FS _
  rw[DD]at e1 e2;omega
 have z:(if CT a.rs=0 then BW (BD a.rs)else []).length<=100000:=by
  split
  ·rename_i j;have v:=(Mk j).1;have e1:=EK (BD a.rs);have e2:=HH (l:=BD a.rs) (b:=1007) λx p=>by
    obtain⟨y,d,rfl⟩:=Zd.1 p;have u:=(w y d).1;have q:=Ds y.2.toNat;simp only[FM,QJ,QA,QD];omega
   rw[CA]at e1 e2;omega
  ·simp
 have f:=F4 a.da;have r:=F4 a.key;unfold Fi;split
 ·omega
 ·grind
def Fq(a:Ak):Bs:=DK a.op++(B8 a.op).flatMap λc=>32::Fi a (c.toNat:Int)
theorem forms_ok:Fr.all (λp=>decide (p.1.length<=20)&&(decide (p.2.length<=20)&&p.2.all λc=>decide (c.toNat<128)))=true:=Xp
def PZ(op:Int):(DK op).length<=20∧(B8 op).length<=20∧∀c∈B8 op,c.toNat<128:=by
 unfold DK B8;have:∀p:Bs×Bs,p=([],[])∨p∈Fr->p.1.length<=20∧p.2.length<=20∧∀c∈p.2,c.toNat<128:=by
  grind [forms_ok]
 refine this _ ?_;by_cases h:op.toNat<Fr.length
 ·simp_all
 ·simp_all
def aHg{S:Ic}{a:Ak}(q:ID a)(b:S 263=some (Af aKj)){ls:Bs}(qa:ls.length<=20)(o:∀c∈ls,c.toNat<128)(ca:∀c∈ls,L7 a (c.toNat:Int)){ki:Id}(i:([0]:Id)≠ki){w0:Bs}(ma:w0.length<=20){Q:Ex->St->Prop}
  (ia:∀z,z.s 4= .str (w0++ls.flatMap λc=>32::Fi a (c.toNat:Int))->Q (.exit 0) z):
  ∀(f p:Nat) z g,ls.length=p+f->z.s 1= .ptr [0] 0->z.s 4= .str (w0++(ls.take p).flatMap λc=>32::Fi a (c.toNat:Int))->z.s 14= .itp ki->Ah z.m [0] 0 11=some (It a)->z.m ki 1=some (.it ls p)->
   A2 S [] RC Q z g:=by
 intro f;induction f with
 |zero=>
  intro p z g hf u h4 sa hm ka;refine Ae RC.eq_1 ?_;have k:¬(p<ls.length):=O
  simp only[↓C2,Ih,simprocAttr,sa,k,ka,QB];refine ia _ ?_;simp only[↓C2,reduceIte,Qn,h4];rw[QH O]
 |succ f ih=>
  intro p z g hf u h4 sa hm ka;refine Ae RC.eq_1 ?_;have k:p<ls.length:=O
  have w:ls[p]?=some ls[p]:=Qs k;have n:ls[p]∈ls:=QQ k;have d:=U0 w (o _ n);have e:aKj [.agg (It a),.int .i32 (ls[p].toNat:Int)]=some (.str (Fi a (ls[p].toNat:Int))):=aKi q (ca _ n);have j:=N3 (c:=(ls[p].toNat:Int)) q;have na:ls.take (p+1)=ls.take p++[ls[p]]:=YC
  have y:((ls.take p).flatMap λc=>32::Fi a (c.toNat:Int)).length<=100001*20:=by
   have:∀(l:Bs),((l.flatMap λc=>32::Fi a (c.toNat:Int))).length<=100001*l.length:=by
    intro l;induction l with
    |nil=>simp
    |cons x r ih=>
     have:=N3 (c:=(x.toNat:Int)) q;simp only[Q1,QJ,QA,ZP];omega
   have h:=this (ls.take p);have h':(ls.take p).length<=20:=Xg
   omega
  have ua:(1+(Fi a (ls[p].toNat:Int)).length<=9223372036854775807)=True:=eq_true O;have v:(w0.length+((ls.take p).flatMap λc=>32::Fi a (c.toNat:Int)).length+(1+(Fi a (ls[p].toNat:Int)).length)<=9223372036854775807)=True:=eq_true O;generalize ls[p]=c at d e na ua v;obtain⟨ja,t,fa⟩:=z;simp only at u h4 sa hm ka;simp only[↓C2,Iw,Ii,simprocAttr,u,h4,sa,hm,d,AT i,Ab b,e,ua,v,Bp,Bq,k,ka,QJ,QB,QG];refine ih (p+1) _ _ O ?_ ?_ ?_ ?_ ?_
  ·exact u
  ·simp only[↓C2,reduceIte,Qn];rw[na];simp
  ·exact sa
  ·grind [AT]
  ·grind [Ag]
def aTn:List D->Option D:=FX (λa:Ak=>[IB a]) (λa=>ID a∧∀c∈B8 a.op,L7 a (c.toNat:Int)) (λa=> .str (Fq a))
def aKH{a:Ak}(h:ID a)(q:∀c∈B8 a.op,L7 a (c.toNat:Int)):aTn [IB a]=some (.str (Fq a)):=
 Bl (mk:=λa:Ak=>[IB a]) (λx y e=>by
  simp only[Qo,and_true]at e;exact DF e) ⟨h,q⟩
def aVn:Kq aTn 155:=by
 obtain⟨S,v,w⟩:=A7 (Aa aLr (Aa aUR Ad));have d:=w 151 _ rfl;have b:=w 263 _ rfl;clear w;refine Bo v (Ai func155:Fn Qw 155 25 aOJ [.t 2]) (λ_=>U) (λa g=>?_);obtain⟨q,x⟩:=g;have e:=tK q.op0 q.op;obtain⟨y,o,c⟩:=PZ a.op;have oa:It a= .int .u8 a.op::(It a).tail:=rfl;unfold Fq aOJ IB;have u:∀m:Ig,m.put [0] 0 (It a) [0] 0=some (.int .u8 a.op):=λm=>by
  rw[Ag,if_pos ⟨rfl,QZ _,XX⟩];rfl
 simp only[↓C2,Is,simprocAttr,Ab d,e,u,AA,AQ,Ag,Ao,Ap,Qy,Qx,Qo,Qp];refine aHg (ls:=B8 a.op) (w0:=DK a.op) q b o c x (ki:=_) ?_ y (λz n=>?_) (B8 a.op).length 0 _ _ O rfl ?_ rfl ?_ ?_
 ·decide
 ·simp only[↓C2,Ij,simprocAttr,n]
  all_goals exact Qj
 ·simp only[↓C2,Ih,reduceIte,Qn,QL,Q4,Zi]
 ·simp only[AT (show([0]:Id)≠[12]by decide),AT (show([0]:Id)≠[5]by decide),AX (AQ a)]
 ·simp only[IM,Ii,simprocAttr,Ag,Qz,QE,QA,QD,Qu,QB,QG,and_self,Qo,false_and,Qp]
def FB(a:Ak):Ak->Bs->Int×Ak
 |b,[]=>(0,b)
 |b,c::r=>if BI a (c.toNat:Int)≠0 then(BI a (c.toNat:Int),b)else FB a (Bk b (c.toNat:Int)) r
def Et(a:Ak):Ak:={a with op:=0}
def Cc(a:Ak):Int:=if DK a.op=[]then 22 else if(FB a (Et a) (B8 a.op)).1≠0 then(FB a (Et a) (B8 a.op)).1 else if NJ (FB a (Et a) (B8 a.op)).2=false then 2 else if 400<(Fq a).length then 5 else 0
def ID.without{a:Ak}(h:ID a)(c:Int):ID (Bk a c):=by
 unfold Bk;obtain⟨r,u,q,o,b,m,x,w,y,p⟩:=h
 repeat' split
 all_goals exact⟨by first|exact r|simp,by first|exact u|simp,by first|exact q|simp,by first|exact o|simp,by first|exact b|simp,by first|exact m|simp,by first|exact x|simp,by first|exact w|simp,by first|exact y|simp,by first|exact p|simp⟩
def aBm{m:Ig}{i:Id}(a:Ak):Ah ((m.put i 0 (It a)).put i 0 [.int .u8 0]) i 0 11=some (It (Et a)):=by
 grind [Vs,It,Et,AQ,Ag]
def aQA{S:Ic}{a:Ak}(ha:ID a)(i:S 152=some (Af aKM))(j:S 153=some (Af aKK)){ls:Bs}(o:∀c∈ls,c.toNat<128){r:Int×Ak}{Q:Ex->St->Prop}
  (ma:∀z,r.1≠0->z.s 2= .int .i64 r.1->Q .ret z)
  (ia:∀z,r.1=0->(∀c∈ls,BI a (c.toNat:Int)=0)->ID r.2->z.s 1= .ptr [0] 0->z.s 4= .ptr [11] 0->Ah z.m [0] 0 11=some (It a)->Ah z.m [11] 0 11=some (It r.2)->Q (.exit 0) z):
  ∀(f p:Nat)(b:Ak) z g,ls.length=p+f->FB a b (ls.drop p)=r->(∀c∈ls.take p,BI a (c.toNat:Int)=0)->ID b->z.s 1= .ptr [0] 0->z.s 4= .ptr [11] 0->z.s 18= .itp [17]->Ah z.m [0] 0 11=some (It a)->Ah z.m [11] 0 11=some (It b)->z.m [17] 1=some (.it ls p)->
   A2 S [] VZ Q z g:=by
 have n:([0]:Id)≠[17]:=Z
 have l:([11]:Id)≠[17]:=Z
 have u:([0]:Id)≠[11]:=Z
 have q:([17]:Id)≠[11]:=Z
 intro f;induction f with
 |zero=>
  intro p b z g hf v hz hb y h4 la hm ra ka;refine Ae VZ.eq_1 ?_;have hp:¬(p<ls.length):=O
  simp only[↓C2,Ih,simprocAttr,la,hp,ka,QB];rw[Zz O]at v;rw[QH O]at hz;simp only[FB]at v;subst v;exact ia _ rfl hz hb y h4 hm ra
 |succ f ih=>
  intro p b z g hf v hz hb y h4 la hm ra ka;refine Ae VZ.eq_1 ?_;have hp:p<ls.length:=O
  have w:ls[p]?=some ls[p]:=Qs hp;have ea:ls[p]∈ls:=QQ hp;have d:=U0 w (o _ ea);have e:aKM [.agg (It a),.int .i32 (ls[p].toNat:Int)]=some (.int .i64 (BI a (ls[p].toNat:Int))):=aKL ha;have k:aKK [.agg (It b),.int .i32 (ls[p].toNat:Int)]=some (.agg (It (Bk b (ls[p].toNat:Int)))):=aKJ;have na:ls.take (p+1)=ls.take p++[ls[p]]:=YC
  have wa:ls.drop p=ls[p]::ls.drop (p+1):=Zh hp;have sa:=hb.without (ls[p].toNat:Int);rw[wa]at v;unfold FB at v;generalize ls[p]=c at d e k na v sa;obtain⟨ja,t,fa⟩:=z;simp only at y h4 la hm ra ka;by_cases he:BI a (c.toNat:Int)=0
  ·rw[if_neg (λh=>h he)]at v;rw[he]at e;simp only[↓C2,Ij,simprocAttr,y,h4,la,hm,ra,d,AT n,AT l,Ab i,e,Ab j,k,Bp,Bq,AA,AQ,hp,ka,and_self,QB,QG,Qx];refine ih (p+1) _ _ _ O v (λx hx=>?_) sa ?_ ?_ ?_ ?_ ?_ ?_
   ·grind
   ·exact y
   ·exact h4
   ·exact la
   ·grind [AT]
   ·grind [AX,AQ]
   ·grind [aA,Ag]
  ·rw[if_pos he]at v;simp only[↓C2,Ij,simprocAttr,y,la,hm,d,AT n,Ab i,e,he,Bp,Bq,hp,ka,QB,QG];exact ma _ (by rw[←v];exact he) (by rw[←v];rfl)
def Ns{b:Bool}(h:GD b=0):b=true:=by cases b with
 |true=>rfl
 |false=>cases h
def dS{a:Ak}{c:Int}(h:BI a c=0):L7 a c:=by
 refine⟨?_,?_,?_⟩
 ·rintro rfl;have e:BI a 110=GD (decide (0<=a.n∧a.n<=999)):=by simp[BI]
  rw[e]at h;have:=of_decide_eq_true (Ns h);omega
 ·rintro rfl;have e:BI a 99=GD (decide (-1<=a.cas∧a.cas<=999)):=by simp[BI]
  rw[e]at h;have:=of_decide_eq_true (Ns h);omega
 ·rintro rfl;have e:BI a 108=GD (countB a.ns):=by simp[BI]
  rw[e]at h;have q:=Ns h;unfold countB at q;rw[Q7]at q;intro x p;have o:(a.ns.any λx=>!decide (1<=x∧x<=999))=false:=by simpa using q.2
  rw[ZK]at o;have b:=o x p;have m:1<=x∧x<=999:=XT
  omega
def F68:List D->Option D:=FX (λa:Ak=>[IB a]) (λa=>ID a) (λa=> .int .i64 (Cc a))
def aE0{a:Ak}(h:ID a):F68 [IB a]=some (.int .i64 (Cc a)):=
 Bl (mk:=λa:Ak=>[IB a]) (λx y e=>by
  simp only[Qo,and_true]at e;exact DF e) h
def aZV:Kq F68 68:=by
 obtain⟨S,hS,w⟩:=A7 (Aa aLr (Aa aVq (Aa aVp (Aa aVo (Aa aVn Ad)))));have d:=w 151 _ rfl;have i:=w 152 _ rfl;have j:=w 153 _ rfl;have f:=w 154 _ rfl;have g:=w 155 _ rfl;clear w;refine Bo hS (Ai func68:Fn Qw 68 39 aYa [.t 2]) (λ_=>U) (λa x=>?_);have e:=tK x.op0 x.op;obtain⟨f1,f2,f3⟩:=PZ a.op;have ka:∀m:Ig,m.put [0] 0 (It a) [0] 0=some (.int .u8 a.op):=λm=>by
  rw[Ag,if_pos ⟨rfl,QZ _,XX⟩];rfl
 have n:([0]:Id)≠[17]:=Z
 have l:([11]:Id)≠[17]:=Z
 have u:([0]:Id)≠[11]:=Z
 have q:([0]:Id)≠[5]:=Z
 have na:∀m:Ig,m.put [11] 0 (It a) [11] 0=some (.int .u8 a.op):=λm=>by
  rw[Ag,if_pos ⟨rfl,QZ _,XX⟩];rfl
 have ea:ID (Et a):=⟨by simp[Et],by simp[Et],x.tk,x.pa,x.ot,x.ns,x.da,x.rl,x.rs,x.key⟩;have s:(∀c∈B8 a.op,BI a (c.toNat:Int)=0)->aTn [.agg (It a)]=some (.str (Fq a)):=λh=>aKH x λc hc=>dS (h c hc)
 unfold Cc aYa IB;by_cases hw:DK a.op=[]
 ·have o:(DK a.op==([]:Bs))=true:=by rw[hw];rfl
  simp only[↓C2,Iw,Ii,simprocAttr,AA,AQ,Ab d,e,ka,AX,Ag,Qz,QE,QB,and_self,Qx,Qo,Qp,hw]
  all_goals exact Qj
 ·have o:(DK a.op==([]:Bs))=false:=by simpa using hw
  simp only[↓C2,Is,simprocAttr,AA,AQ,Ab d,e,ka,na,Mj,AX,Ag,Qx,Qo,and_false,Qp,hw,AT q,AX (AQ a)];generalize hr:FB a (Et a) (B8 a.op)=r;refine aQA (r:=r) x i j f3 (λz y h2=>?_) (λz y hz p v h4 hm ra=>?_) (B8 a.op).length 0 (Et a) _ _ O hr U ea rfl rfl rfl ?_ ?_ ?_
  ·simp only[↓C2,Ij,reduceIte,y,h2,ne_eq];rw[if_neg hw]
  ·have k:=s hz;have b:aTo [.agg (It r.2),.agg [.int .u8 0,.str [],.str [],.str [],.int .i64 0,.int .i64 0,.bool false,.slice true [] [],.str [],.slice true [] [],.str []]]=some (.bool (NJ r.2)):=aKI p;cases hzb:NJ r.2 with
   |false=>
    rw[hzb]at b;simp only[↓C2,Ij,simprocAttr,Bp,Bq,ne_eq,QO,QS,Q5,Q6,ZG,y,h4,ra,Ab f,b,Cd,D.un1,D.calm1,Zv];rw[if_neg hw]
   |true=>
    rw[hzb]at b;by_cases w:400<(Fq a).length
    ·have fa:((400:Int)<((Fq a).length:Int)):=by omega
     simp only[↓C2,Ij,simprocAttr,Bp,Bq,ne_eq,QO,QS,Q5,Q6,ZG,y,v,h4,hm,ra,Ab f,b,Ab g,k,Cd,w,fa,D.un1,D.calm1,Zv];rw[if_neg hw]
    ·have fa:¬((400:Int)<((Fq a).length:Int)):=by omega
     simp only[↓C2,Ij,simprocAttr,Bp,Bq,ne_eq,QO,QS,Q5,Q6,ZG,y,v,h4,hm,ra,Ab f,b,Ab g,k,Cd,w,fa,D.un1,D.calm1,Zv];rw[if_neg hw]
  ·grind [AT,AX,AQ]
  ·simp only[AT l];exact aBm a
  ·grind [Ag]
def ryN:Ry->Prop
 | .names nl l=>nl=true->l=[]
 |_=>True
def Sd:∀{l:List Rw} {a:Int},FO l a=true->∀x∈l,a<x.1∧x.1<=(l.getLast?.map (·.1)).getD 0
 |[],a,_,x,hx=>by cases hx
 |y::r,a,h,x,hx=>by
  simp only[FO,Q7,decide_eq_true_eq]at h;cases r with
  |nil=>
   rw[Q_.1 hx];exact⟨h.1,U⟩
  |cons z q=>
   have ih:=Sd h.2;have p:=ih z (ZH ..);rw[List.getLast?_cons_cons];rcases Q0.1 hx with rfl|hx
   ·exact⟨h.1,O⟩
   ·grind
def dF(l:List Rw):Li l=(l.getLast?.map (·.1)).getD 0:=by
 grind [Li]
def U_{s:Sc}{q:Int}(h:BF s q=false)(b:q<=6):s.rs.length<=6∧∀x∈s.rs,1<=x.1∧x.1<=30:=by
 obtain⟨o,m,i,f,n,w⟩:=Hz h;have j:BE s q<=6:=by unfold BE;split<;>omega
 refine⟨O,λx p=>?_⟩;have:=Sd n x p;rw[←dF,w]at this;omega
theorem sum_64:∀l:List Bs,(l.any λs=>!Tr s)=false->Cg l<=64*l.length
 |[],_=>by simp[Cg]
 |x::r,h=>by
  simp only[ZU,Bool.or_eq_false_iff,Bool.not_eq_false']at h;have ih:=sum_64 r h.2;have p:x.length<=64:=by
   grind [Tr]
  simp only[Cg,QA];omega
def pP{y:Ry}(h:MD y=0)(f:ryN y):ryG y:=by
 cases y with
 |fail e=>simp only[MD]at h;split at h;(rename_i c;exact⟨O,O⟩);omega
 |done=>trivial
 |number n=>simp only[MD]at h;split at h;(rename_i c;exact⟨O,O⟩);omega
 |found n d=>simp only[MD]at h;split at h;(rename_i c;exact⟨O,O,O⟩);omega
 |about s=>
  simp only[MD]at h;cases hb:BF s 6 with
  |true=>rw[hb]at h;simp at h
  |false=>
   obtain⟨o,m,i,_⟩:=Hz hb;obtain⟨w,t⟩:=U_ hb O;exact⟨O,O,O,λx p=>by have:=t x p;omega⟩
 |names nl l=>
  simp only[MD]at h;split at h
  ·rename_i c;have:=sum_64 l c.2;exact⟨O,f,O⟩
  ·omega
 |state b=>trivial
theorem Uz(l:List Bs):(FY l).length<=1+Cg l+l.length:=by
 grind [FY,EY]
def aGa{y:Ry}(h:MD y=0)(f:ryN y):(Nc y).length<=6∧Cg (Nc y)<=100000:=by
 cases y with
 |fail e=>have:=B6 e.toNat;simp only[Nc,Cg,QA,QD];omega
 |done=>simp[Nc,Cg]
 |number n=>have:=B6 n.toNat;simp only[Nc,Cg,QA,QD];omega
 |found n d=>
  have:=B6 n.toNat;simp only[MD]at h;split at h
  ·grind [F4,Nc,Cg]
  ·omega
 |about s=>
  have g:=B6 s.mx.toNat;have w:=B6 s.la.toNat;obtain⟨z,_⟩:=pP h f;have:=Uz (s.rs.map Cj);have:=NP s.rs;rw[Zj]at *;simp only[Nc,Cg,QA,QD];omega
 |names nl l=>
  simp only[MD]at h;split at h
  ·grind [sum_64,Uz,Nc,Cg]
  ·omega
 |state b=>cases b<;>simp[Nc,Cg]
def aEy:=AB [(92,Af R92),(222,Af aSQ),(221,Af dV)]
def aJX:=RF aEy aO8 [.t 2,.t 3] 13
def aLV:Kq aJX 121:=Az (Ai func121) (Aa bAr (Aa aW3 (Aa aLO Ad)))
def tN(y:Ry)(h:aGb y)(r:ryN y):aJX [.agg (IL y)]=some (.tup [.str (IY y),.int .i64 (MD y)]):=by
 refine Aq (Qq rfl) ?_;unfold aO8;have n:=aR1 y h;have e0:∃a b c d e f g i j k,IL y=[a,b,c,d,e,f,g,i,j,k]:=Qh
 have d0:∀x∈IL y,x.un1=x∧x.calm1=true:=by
  cases y<;>(intro x p;simp only[IL,Q0,Zf,or_false]at p;rcases p with rfl|rfl|rfl|rfl|rfl|rfl|rfl|rfl|rfl|rfl<;>exact⟨rfl,rfl⟩)
 unfold IY;by_cases c:MD y=0
 ·have o:=aJl y (pP c r);obtain⟨w1,z⟩:=aGa c r;have m:=dT (l:=Nc y) (s:=[32]) ⟨aA2 y,O,O,U,by have:=EY (Nc y) [32];simp only[QA,QD]at this;omega⟩;obtain⟨a,b,cc,d,e,f,g,i,j,k,v⟩:=e0;have u:=λx p=>d0 x p
  rw[v]at n o d0 ⊢;rw[c]at n ⊢;simp only[Q0,Zf,or_false,forall_eq_or_imp,forall_eq]at d0;obtain⟨⟨t,a2⟩,⟨b1,b2⟩,⟨c1,c2⟩,⟨d1,d2⟩,⟨e1,e2⟩,⟨f1,f2⟩,⟨w,g2⟩,⟨i1,i2⟩,⟨j1,j2⟩,k1,k2⟩:=d0;have q:((An (Nc y)).all D.calm)=true:=by simp[An,Q9];intros;rfl
  simp only[↓C2,Ie,simprocAttr,Ac aEy 92,n,t,a2,b1,b2,c1,c2,d1,d2,e1,e2,f1,f2,w,g2,i1,i2,j1,j2,k1,k2,Ac aEy 222,o,Ac aEy 221,m,spJ]
  all_goals exact Qi
 ·have c':=eq_false c;obtain⟨a,b,cc,d,e,f,g,i,j,k,v⟩:=e0;rw[v]at n d0 ⊢;simp only[Q0,Zf,or_false,forall_eq_or_imp,forall_eq]at d0;obtain⟨⟨t,a2⟩,⟨b1,b2⟩,⟨c1,c2⟩,⟨d1,d2⟩,⟨e1,e2⟩,⟨f1,f2⟩,⟨w,g2⟩,⟨i1,i2⟩,⟨j1,j2⟩,k1,k2⟩:=d0;simp only[↓C2,Ie,simprocAttr,Ac aEy 92,n,t,a2,b1,b2,c1,c2,d1,d2,e1,e2,f1,f2,w,g2,i1,i2,j1,j2,k1,k2,c']
  all_goals exact Qi
def aZj:=AB [(121,Af aJX)]
def aS2:=RF aZj aO9 [.t 2] 17
def aXx:Kq aS2 120:=Az (Ai func120) (Aa aLV Ad)
def aJY(e:Int)(h:1<=e∧e<=99):aS2 [.int .i64 e]=some (.str (IY (.fail e))):=by
 refine Aq (Qq rfl) ?_;unfold aO9;have n:=tN (.fail e) trivial trivial;have x:MD (.fail e)=0:=if_pos h;rw[x]at n;have c':(e=0)=False:=eq_false O;unfold IL at n;simp only[↓C2,Ie,simprocAttr,Ac aZj 121,n,c']
 all_goals exact Qi
def aNk:=y0 Tryz.f264 [] []
def aNj:=y0 f265 [] []
def aOF:=y0 f160 [] []
def aHQ:=y1 f267 3 [] []
def aNh:=y0 f267 [] [(3,aHQ)]
def aNg:=y0 f268 [] []
def Rg:=y1 f266 2 [] []
def aNi:=y0 f266 [] [(2,Rg)]
def aMs:=y0 f349 [(3,[(2,7),(7,2)])] []
def P1:=y1 f350 4 [] []
def aMr:=y0 f350 [] [(4,P1)]
def Re:=y1 f270 6 [] []
def aNe:=y0 f270 [] [(6,Re)]
def Rc:=y1 f282 4 [] []
def aM4:=y0 f282 [] [(4,Rc)]
def aUQ:Kq aTf 264:=by
 refine Bo (S:=λ_=>none) AI (Ai func264:Fn Qw 264 4 aNk [.t 2]) (λ_=>U) (λb _=>?_);unfold aNk;cases b<;>simp only[↓C2,Ij,reduceIte,Qn,Qr]
 all_goals exact Qj
theorem iG{ds:List D}{r:D}(h:Ph ds=some r):∃n lo hi,ds=[.int .i64 n,.int .i64 lo,.int .i64 hi]∧r= .bool (decide (lo<=n∧n<=hi)):=by
 unfold Ph at h;split at h
 ·grind
 ·cases h
def aLg:Kq Ph 265:=by
 refine AD (S:=λ_=>none) AI (Ai func265:Fn Qw 265 15 aNj [.t 6]) (λds r h=>?_) (λds r h=>?_)
 ·grind [iG]
 ·obtain⟨n,lo,hi,rfl,rfl⟩:=iG h;unfold aNj;by_cases u:lo<=n
  ·by_cases q:n<=hi
   ·simp only[↓C2,Ij,reduceIte,Qn,Qr,u,q,and_self]
    all_goals exact Qj
   ·simp only[↓C2,Ij,reduceIte,Qn,Qr,u,q,and_false]
    all_goals exact Qj
  ·simp only[↓C2,Ij,reduceIte,Qn,Qr,u,false_and]
   all_goals exact Qj
def aJH:List D->Option D:=H3 (λ_=>none) 9 aOF [.t 2] 60
def aBK:Kq aJH 160:=FH AI (Ai func160:Fn Qw 160 9 aOF [.t 2]) 60
def aSK:List D->Option D:=H3 (λ_=>none) 9 aNg [.t 2] 60
def aUN:Kq aSK 268:=FH AI (Ai func268:Fn Qw 268 9 aNg [.t 2]) 60
def VN(s:Bs):Option D->Bool
 |some (.str a)=>Go.Ve.eqBs a s
 |_=>false
def SC{s:Bs}{r:Option D}(h:VN s r=true):r=some (.str s):=by
 unfold VN at h;split at h
 ·rw[Go.Ve.eqBs_eq h]
 ·cases h
def aEN:(ZI 19).all (λop=>VN (Fr.getD op ([],[])).2 (aJH [.int .i64 (op:Nat)]))=true:=Xa
def aEF:(ZI 19).all (λop=>VN (Fr.getD op ([],[])).1 (aSK [.int .i64 (op:Nat)]))=true:=Xa
def tJ{op:Int}(r:0<=op)(h:op<19):aJH [.int .i64 op]=some (.str (B8 op)):=by
 have:=Q9.1 aEN op.toNat Xc;rw[QY r]at this;exact SC this
def aI8{op:Int}(r:0<=op)(h:op<19):aSK [.int .i64 op]=some (.str (DK op)):=by
 have:=Q9.1 aEF op.toNat Xc;rw[QY r]at this;exact SC this
def Ck(op:Int)(c:Nat):Bool:=(B8 op).any λx=>x.toNat==c
def Fk:List D->Option D:=H3 (AB [(160,Af aJH)]) 20 aNh [.t 4] 60
def aUO:Kq Fk 267:=FH (Aa aBK Ad) (Ai func267:Fn Qw 267 20 aNh [.t 4]) 60
def VP(b:Bool):Option D->Bool
 |some (.bool a)=>a==b
 |_=>false
def dX{b:Bool}{r:Option D}(h:VP b r=true):r=some (.bool b):=by
 unfold VP at h;split at h
 ·rw[beq_iff_eq.1 h]
 ·cases h
def IN:List Nat:=[116,112,109,113,110,99,102,108,100,114,107]
def aEG:(ZI 19).all (λop=>IN.all λc=>VP (Ck (op:Nat) c) (Fk [.int .i64 (op:Nat),.int .u8 (c:Nat)]))=true:=Xa
def aI9{op:Int}{c:Nat}(r:0<=op)(h:op<19)(k:c∈IN):Fk [.int .i64 op,.int .u8 (c:Nat)]=some (.bool (Ck op c)):=by
 have:=Q9.1 aEG op.toNat Xc;rw[QY r]at this;exact dX (Q9.1 this c k)
def aGX{S:Ic}{l:List Int}{nl:Bool}{Q:Ex->St->Prop}(i:l.length<=1000000)(d:S 265=some (Af Ph))
  (c:∀z,(l.any λx=>!decide (1<=x∧x<=999))=true->z.s 2= .bool false->Q .ret z) (e:∀z,(l.any λx=>!decide (1<=x∧x<=999))=false->z.s 0= .slice nl [] (AE l)->Q (.exit 0) z):
  ∀(f j:Nat) z g,l.length=j+f->((l.take j).any λx=>!decide (1<=x∧x<=999))=false->z.s 0= .slice nl [] (AE l)->z.s 3= .int .i64 (j:Int)->A2 S [] Rg Q z g:=by
 intro f;induction f with
 |zero=>
  intro j z g k q r o;refine Ae Rg.eq_1 ?_;have:¬((j:Int)<l.length):=O
  simp only[↓C2,Ih,Ii,reduceIte,Qn,Qr,r,o,this,Bb];rw[QH O]at q;exact e _ q r
 |succ f ih=>
  intro j z g k q r o;refine Ae Rg.eq_1 ?_;have y:j<l.length:=O
  have v:((j:Int)<l.length):=O
  have qa:=nJ (j:=j);have h:=wJ (j:=j) O;have w:(AE l)[j]?=some (.int .i64 l[j]):=by simp[AE,Qs y]
  have na:l.take (j+1)=l.take j++[l[j]]:=by rw[QX,Qs y];rfl
  have n:l[j]∈l:=QQ y;generalize l[j]=x at w na n;have a:Ph [.int .i64 x,.int .i64 1,.int .i64 999]=some (.bool (decide (1<=x∧x<=999))):=rfl;obtain⟨ja,t,b⟩:=z;simp only at r o;by_cases p:1<=x∧x<=999
  ·rw[decide_eq_true p]at a;simp only[↓C2,Iw,Ii,reduceIte,Qn,Qr,r,o,v,qa,h,Qv,w,Bb,Ab d,a,QV];refine ih (j+1) _ _ O ?_ r rfl;rw[na,Zs,q];simp[p]
  ·rw[decide_eq_false p]at a;simp only[↓C2,Iw,Ii,reduceIte,Qn,Qr,r,o,v,qa,Qv,w,Bb,Ab d,a,QV];refine c _ ?_ rfl;rw[Za];exact⟨x,n,Xz⟩
def aUP:Kq aTe 266:=by
 obtain⟨S,v,w⟩:=A7 (Aa aLg Ad);have d:=w 265 _ rfl;clear w;refine Bo v (Ai func266:Fn Qw 266 19 aNi [.t 2]) (λ_=>U) (λp j=>?_);obtain⟨nl,l⟩:=p;simp only at j;unfold aNi countB;simp only;simp only[↓C2,Ih,Qr];refine aGX (l:=l) (nl:=nl) j d (λz u q=>?_) (λz u r=>?_) l.length 0 _ _ O U rfl rfl
 ·rw[u];simp only[↓C2,Ij,q,QU]
  all_goals exact Qj
 ·rw[u];have s:decide ((l.length:Int)<=6)=decide (l.length<=6):=by
   grind
  simp only[↓C2,Ij,reduceIte,Qn,Qr,r,Bb,s]
  all_goals exact Qj
theorem N8{α:Type}{l:List α}{k:Nat}(h:k<l.length):(l.take (k+1)).isEmpty=false:=by
 cases l with
 |nil=>simp at h
 |cons x r=>rfl
def aDX{n:Nat}(h:n<10):IntKind.u8.wrap (IntKind.i64.wrap (48+(n:Int)))=((H_ n).toNat:Int):=by
 have u:IntKind.i64.wrap (48+(n:Int))=((48+n:Nat):Int):=Xn
 have q:(H_ n).toNat=48+n:=by unfold H_;rw[if_pos h,UInt8.toNat_ofNat'];omega
 rw[u,q];simp only[IntKind.wrap,IntKind.signed,IntKind.bits,QC,Zk,if_false];omega
def iD(b:Nat):List D->Option D:=FX (λn:Nat=>[.int .i64 (n:Int)]) (λn=>n<b∧n<1000) (λn=> .str (BC n))
def RY{b n:Nat}(h:n<b∧n<1000):iD b [.int .i64 (n:Int)]=some (.str (BC n)):=Bl (mk:=λn:Nat=>[.int .i64 (n:Int)]) (λa b h=>YV) h
def jY{n:Nat}(h:n<10):BC n=[H_ n]:=by unfold BC;rw[if_pos h]
def vM{n:Nat}(h:¬n<10)(q:n<1000):BC n=BC (n / 10)++[H_ (n % 10)]:=by
 grind [BC]
def Vg{b B:Nat}{S:Ic}(s:Ic.ok Qw S)(m:B<=10∨(B<=10*b∧S 349=some (Af (iD b)))):(Af (iD B)).ok Qw 349:=by
 refine Bo s (Ai func349:Fn Qw 349 20 aMs [.t 2]) (λ_=>U) (λn f=>?_);obtain⟨u,na⟩:=f;have a:((10:Int)=0)=False:=U
 unfold aMs;by_cases h:n<10
 ·have v:((n:Int)<10):=by omega
  have y:=aDX h;simp only[↓C2,Iw,Ii,reduceIte,Qn,Qr,v,y];simp only[jY h,Qv,UInt8.ofNat_toNat]
  all_goals exact Qj
 ·have v:¬((n:Int)<10):=by omega
  obtain⟨j,d⟩:B<=10*b∧S 349=some (Af (iD b)):=m.resolve_left O;have i:=RY (b:=b) (n:=n / 10) ⟨O,O⟩;have y:=aDX (n:=n % 10) O;have m0:=M8 n;have l:=M9 n na;have w:=FS (n / 10);have z:((BC (n / 10)).length+1<=9223372036854775807)=True:=eq_true O;simp only[↓C2,Iw,Ii,reduceIte,Qn,Qr,v,y,m0,l,a,ne_eq,Ab d,i,z];refine AF.intro (Ce ?_) ?_
  ·simp only[Ec,Q5,Q6,Zl,QB,QG,Zb,BP,QA,QD,Q1,Q4,Lf,↓C2,d,Af];simp[A4]
  simp only[↓C2,Ij,reduceIte,Qn];simp only[vM h na,Qv,UInt8.ofNat_toNat]
  all_goals exact Qj
def aUt:(Af (iD 1000)).ok Qw 349:=Vg (b:=100) (S:=AB [(349,Af (iD 100))]) (Aa (Vg (b:=10) (S:=AB [(349,Af (iD 10))]) (Aa (Vg (b:=0) AI (.inl (QZ _))) Ad) (.inr ⟨O,rfl⟩)) Ad) (.inr ⟨O,rfl⟩)
def aGU{S:Ic}{l:Bs}{Q:Ex->St->Prop}(i:l.length<=1000000)
  (e:∀z t,z.s 4= .slice l.isEmpty t (Ax (Lj l))->Q (.exit 0) z):
  ∀(n k:Nat)(t:Id) z g,n=l.length-k->k<=l.length->z.s 5= .int .i64 (k:Int)->z.s 0= .str l->z.s 3= .str [48,49,50,51,52,53,54,55,56,57,97,98,99,100,101,102]->z.s 4= .slice (l.take k).isEmpty t (Ax (Lj (l.take k)))->Gw z.m z.c 5 (l.take k).isEmpty t->
   A2 S [] Rc Q z g:=by
 intro n;induction n with
 |zero=>
  intro k t z g f j q r o b hg;refine Ae Rc.eq_1 ?_;have:¬((k:Int)<l.length):=O
  simp only[↓C2,Ih,Ii,reduceIte,Qn,Qr,q,r,this];refine e _ t ?_;rw[QH O]at b;simp only[↓C2,reduceIte,Qn,b]
 |succ n ih=>
  intro k t z g f j q r o b hg;refine Ae Rc.eq_1 ?_;have v:((k:Int)<l.length):=O
  have oa:(0:Int)<=(k:Int):=O
  have w:k<l.length:=O
  have p:l[(k:Int).toNat]?=some l[k]:=by simp[w]
  have d:IntKind.i64.wrap ((k:Int)+1)=(k:Int)+1:=IntWalk.i64_in _ ⟨O,O⟩;have hc:=l[k].toNat_lt;have na:l.take (k+1)=l.take k++[l[k]]:=by rw[QX,Qs w];rfl
  have u:(l.take k).length=k:=Xc
  have a1:IntKind.u8.wrap ((l[k].toNat:Int).tdiv 16)=((l[k].toNat / 16:Nat):Int):=by
   have:(l[k].toNat:Int).tdiv 16=((l[k].toNat / 16:Nat):Int):=by rw[Zu O];omega
   rw[this];exact IntWalk.u8_in _ ⟨O,O⟩
  have a2:(l[k].toNat:Int).tmod 16=((l[k].toNat % 16:Nat):Int):=Y7
  have a:((16:Int)≠0)=True:=U
  have p1:(0:Int)<=((l[k].toNat / 16:Nat):Int):=O
  have p2:(0:Int)<=((l[k].toNat % 16:Nat):Int):=O
  have y:(((l[k].toNat / 16:Nat):Int)).toNat=l[k].toNat / 16:=Qv _;have q2:(((l[k].toNat % 16:Nat):Int)).toNat=l[k].toNat % 16:=Qv _;have t1:=Np (l[k].toNat / 16) O;have t2:=Np (l[k].toNat % 16) O;have x:(l.take k).isEmpty=true->Ax (Lj (l.take k))=[]:=λh=>YG
  simp only[↓C2,Ij,reduceIte,Qn,Qr,QA,QD,q,r,o,b,v,oa,p,a,a1,a2,p1,p2,y,q2,t1,t2,and_false,reduceCtorEq];refine AF.intro ⟨by rw[BS,F4,u];omega,rfl,hg.grow O⟩ ?_;rw[BN x];simp only[↓C2,Ij,reduceIte,Qn,Qr];refine Al ?_;simp only[↓C2,Ij,reduceIte,Qn,Qr,q,d];refine ih (k+1) [z.c+4+14] _ _ O O rfl r o ?_ ?_
  ·rw[N8 w,na,UJ,Dw];rfl
  ·grind [N8,Gw.new]
def aLe:Kq aFc 282:=by
 refine Bo (S:=λ_=>none) AI (Ai func282:Fn Qw 282 29 aM4 [.t 2]) (λ_=>U) (λs i=>?_);unfold aM4;simp only[↓C2,Ih,Qr];refine aGU (l:=s) i (λz x u=>?_) s.length 0 [] _ _ rfl O rfl rfl rfl rfl (.inl rfl);simp only[↓C2,Ij,reduceIte,Qn,Qr,u,Cy]
 all_goals exact Qj
def UA:Nat->Nat->Nat->Bs
 |0,_,_=>[]
 |f+1,j,c=>(if c % 2=1 then(([114,119,100,120,108,115]:Bs).drop j).take 1 else [])++UA f (j+1) (c / 2)
def aCh(c:Nat):UA 6 0 c=Go.Ve.lettersN c:=by
 simp only[UA,Go.Ve.lettersN,Nat.div_div_eq_div_mul,Nat.reduceMul,Zi];rfl
def aGO{S:Ic}{Q:Ex->St->Prop}{w:Bs}(l:w.length<=2000)(u:∀z,z.s 3= .str w->Q (.exit 0) z):
  ∀(f j c:Nat)(q:Bs) z g,j+f=6->c<256->q++UA f j c=w->z.s 3= .str q->z.s 4= .int .u8 (c:Int)->z.s 5= .int .i64 (j:Int)->A2 S [] P1 Q z g:=by
 intro f;induction f with
 |zero=>
  intro j c q z g hf k y o h4 m;refine Ae P1.eq_1 ?_;have v:¬((j:Int)<6):=O
  simp only[↓C2,Ih,Ii,reduceIte,Qn,Qr,m,v];refine u _ ?_;simp only[↓C2,reduceIte,Qn,o];rw[←y];simp[UA]
 |succ f ih=>
  intro j c q z g hf k y o h4 m;refine Ae P1.eq_1 ?_;have v:((j:Int)<6):=O
  have x:=nJ (j:=j);have wa:IntKind.i64.wrap ((j:Int)+1)=((j+1:Nat):Int):=Iz O O;have e:((c:Int).tmod 2=1)=(c % 2=1):=by rw[Int.tmod_eq_emod_of_nonneg O];exact propext ⟨λh=>O,λh=>O⟩
  have b:IntKind.u8.wrap ((c:Int).tdiv 2)=((c / 2:Nat):Int):=by
   rw[Zu O];simp only[IntKind.wrap,IntKind.signed,IntKind.bits,QC,Zk,if_false];omega
  have i:((2:Int)=0)=False:=U
  have ua:((j+1:Nat):Int)<=((6:Nat):Int):=O
  have r:(j:Int)<=((j+1:Nat):Int):=O
  have d:(0:Int)<=((j+1:Nat):Int):=O
  have ta:j+1-j=1:=O
  have a:=y;unfold UA at a;obtain⟨ja,t,fa⟩:=z;simp only at o h4 m;by_cases n:c % 2=1
  ·rw[if_pos n]at a;have p:(q.length+(ZX 1 (Z0 j ([114,119,100,120,108,115]:Bs))).length<=9223372036854775807)=True:=eq_true (by
    have:=congrArg Z_ a;rw[←ZL,QJ,QJ]at this;omega)
   simp only[↓C2,Ih,Ii,reduceIte,Qn,Qr,o,h4,m,v,x,d,wa,e,n,i,ne_eq,b,ua,r,ta,Qv,p,QA,QD,Qu,and_self];exact ih (j+1) (c / 2) _ _ _ O O (by rw[←a];simp) rfl rfl rfl
  ·rw[if_neg n]at a;simp only[↓C2,Ih,Ii,reduceIte,Qn,Qr,h4,m,v,wa,e,n,i,ne_eq,b];exact ih (j+1) (c / 2) q _ _ O O (by rw[←a];simp) o rfl rfl
def aTc:List D->Option D:=FX (λr:Rl=>[iM r]) (λr=>r.1.length<=1000∧0<=r.2∧r.2<64) (λr=> .str (FM r))
def aJ6{r:Rl}(h:r.1.length<=1000∧0<=r.2∧r.2<64):aTc [.agg [.str r.1,.int .u8 r.2]]=some (.str (FM r)):=
 Bl (mk:=λr:Rl=>[iM r]) (λa b h=>by
  simp only[iM,Qo,D.agg.injEq,D.str.injEq,D.int.injEq,true_and,and_true]at h;exact Q3 h.1 h.2) h
def aUr:Kq aTc 350:=by
 refine Bo (S:=λ_=>none) AI (Ai func350:Fn Qw 350 27 aMr [.t 2]) (λ_=>U) (λr y=>?_);obtain⟨u,f,o⟩:=y;obtain⟨p,c⟩:=r;simp only at u f o;obtain⟨n,rfl⟩:∃n:Nat,c=(n:Int):=⟨c.toNat,O⟩;have q:(p.length+1<=9223372036854775807)=True:=eq_true O;have j:=Ds n;unfold aMr iM;simp only[↓C2,Iw,reduceIte,Qn,Qr,q,Ag,Qz,QK,QE,QB,QG,and_self];refine aGO (w:=FM (p,(n:Int))) (by simp only[FM,QJ,QA,QD,Qv];omega) (λz o=>?_) 6 0 n (p++[58]) _ _ rfl O ?_ rfl rfl rfl
 ·simp only[↓C2,Ij,reduceIte,Qn,Qr,o]
  all_goals exact Qj
 ·rw[aCh];rfl
def Nm(y:Bs):∀xs:List Bs,xs≠[]->BW (xs++[y])=BW xs++44::y
 |[x],_=>rfl
 |x::z::r,_=>by
  have:=Nm y (z::r) U;simp only[List.cons_append,BW]at this ⊢;rw[this];simp
def aGV{S:Ic}{l:List Rl}{nl:Bool}{Q:Ex->St->Prop}(i:l.length<=4)(p:∀r∈l,r.1.length<=1000∧0<=r.2∧r.2<64)(c:S 350=some (Af aTc))
  (w:∀z,z.s 5= .str (BW (BD l))->Q (.exit 0) z):
  ∀(f j:Nat) z g,l.length=j+f->z.s 0= .slice nl [] (Aj l)->z.s 5= .str (BW (BD (l.take j)))->z.s 6= .int .i64 (j:Int)->A2 S [] Re Q z g:=by
 intro f;induction f with
 |zero=>
  intro j z g hf m h5 h6;refine Ae Re.eq_1 ?_;have:¬((j:Int)<l.length):=O
  simp only[↓C2,Ih,Ii,reduceIte,Qn,Qr,m,h6,this,Aw];rw[QH O]at h5;exact w _ h5
 |succ f ih=>
  intro j z g hf m h5 h6;refine Ae Re.eq_1 ?_;have k:j<l.length:=O
  have v:((j:Int)<l.length):=O
  have qa:=nJ (j:=j);have hw:=wJ (j:=j) O;have hm:=p l[j] (QQ k);have d:(Aj l)[j]?=some (.agg [.str l[j].1,.int .u8 l[j].2]):=by simp[Aj,iM,Qs k]
  have na:l.take (j+1)=l.take j++[l[j]]:=by rw[QX,Qs k];rfl
  have xa:=Ds l[j].2.toNat;have t:(FM l[j]).length<=1007:=by
   grind [FM]
  have ya:(BW (BD (l.take j))).length<=10000:=by
   have e1:=EK (BD (l.take j));have e2:=HH (l:=BD (l.take j)) (b:=1007) λx oa=>by
    obtain⟨y,hy,rfl⟩:=Zd.1 oa;have u:=(p y (List.mem_of_mem_take hy)).1;have q:=Ds y.2.toNat;simp only[FM,QJ,QA,QD];omega
   rw[CA,Zc]at e1 e2;omega
  generalize l[j]=r at hm d na t;have a:=aJ6 hm;have h:BD (l.take (j+1))=BD (l.take j)++[FM r]:=by rw[na];simp[BD]
  obtain⟨ja,da,o⟩:=z;simp only at m h5 h6;by_cases hz:0<j
  ·have pa:((0:Int)<(j:Int)):=by omega
   have n:BD (l.take j)≠[]:=by
    grind [CA]
   have l1:((BW (BD (l.take j))).length+1<=9223372036854775807)=True:=eq_true O;have l2:((BW (BD (l.take j))).length+1+(FM r).length<=9223372036854775807)=True:=eq_true O;simp only[↓C2,Iw,Ii,reduceIte,Qn,Qr,m,h5,h6,v,qa,hw,pa,Qv,d,Aw,Ab c,a,l1,l2,QJ,Zw,QI,QL];refine ih (j+1) _ _ O m ?_ rfl;simp only[↓C2,IM,reduceIte,Qn];rw[h,Nm _ _ n];simp
  ·have pa:¬((0:Int)<(j:Int)):=by omega
   obtain rfl:j=0:=O
   have l2:((BW (BD [])).length+(FM r).length<=9223372036854775807)=True:=eq_true (by have e:BW (BD [])=[]:=rfl;rw[e,QD];omega);simp only[↓C2,Iw,Ii,reduceIte,Qn,Qr,m,h5,h6,v,qa,hw,pa,Qv,d,Aw,Ab c,a,l2,Zw,QI,QL];refine ih (0+1) _ _ O ?_ ?_ ?_
   ·exact m
   ·simp only[↓C2,IM,reduceIte,Qn,Qr];rw[h];rfl
   ·rfl
def aLf:Kq oN 270:=by
 obtain⟨S,v,w⟩:=A7 (Aa qB (Aa aUr Ad));have f:=w 218 _ rfl;have c:=w 350 _ rfl;clear w;refine Bo v (Ai func270:Fn Qw 270 30 aNe [.t 2,.t 3]) (λ_=>U) (λp g=>?_);obtain⟨nl,l⟩:=p;obtain⟨w,o⟩:=g;simp only at w o;have a:=Oy (nl:=nl) w o;have j:=Mk (l:=l);simp only;unfold aNe;generalize CT l=e at a j;by_cases x:e=0
 ·subst x;obtain⟨b,s⟩:=j rfl;simp only[↓C2,Ij,reduceIte,Qn,Qr,Ab f,a];refine aGV (l:=l) (nl:=nl) b (λr y=>⟨(o r y).1,(o r y).2,by have:=s r y;omega⟩) c (λz m=>?_) l.length 0 _ _ O rfl rfl rfl;simp only[↓C2,Ij,reduceIte,Qn,Qr,m]
  all_goals exact Qj
 ·simp only[↓C2,Ij,reduceIte,Qn,Qr,Ab f,a,x,and_self]
  all_goals exact Qj
def VY:=y1 f71 5 [] []
def aX7:=y0 f71 [] [(5,VY)]
def aOE:=y0 f161 [] []
def aOD:=y0 f162 [] []
def RB:=y1 f163 4 [] []
def aOC:=y0 f163 [] [(4,RB)]
def Rf:=y1 f269 24 [] []
def aNf:=y0 f269 [] [(24,Rf)]
def aVj:(Af (FX (λp:Ak×Int=>[IB p.1,.int .u8 p.2]) (λp=>ID p.1) (λp=> .int .i64 (BI p.1 p.2)))).ok Qw 161:=by
 obtain⟨S,s,w⟩:=A7 (Aa aBJ (Aa aUQ (Aa qD (Aa aLg (Aa aUP (Aa qB Ad))))));have f:=w 217 _ rfl;have e:=w 264 _ rfl;have q:=w 211 _ rfl;have d:=w 265 _ rfl;have g:=w 266 _ rfl;have u:=w 218 _ rfl;clear w;refine Bo s (Ai func161:Fn Qw 161 57 aOE [.t 4]) (λ_=>U) (λp m=>?_);obtain⟨a,c⟩:=p;simp only at m;have k:bH [.str a.tk]=some (.bool (BV a.tk)):=rfl;have hO:bH [.str a.ot]=some (.bool (BV a.ot)):=rfl;have hP:TN [.str a.pa]=some (.int .i64 (Bf a.pa)):=if_pos (by have:=m.pa;omega);have hQ:TN [.str a.ot]=some (.int .i64 (Bf a.ot)):=if_pos (by have:=m.ot;omega);have hN:Ph [.int .i64 a.n,.int .i64 0,.int .i64 999]=some (.bool (decide (0<=a.n∧a.n<=999))):=rfl;have h:Ph [.int .i64 a.cas,.int .i64 (-1),.int .i64 999]=some (.bool (decide (-1<=a.cas∧a.cas<=999))):=rfl;have j:=tV (nl:=a.nln) (l:=a.ns) (by have:=m.ns;omega);have hR:=Oy (nl:=a.nlr) (l:=a.rs) (by have:=m.rl;omega) m.rs;unfold BI aOE IB It;simp only;by_cases y:c=116
 ·subst y;simp only[↓C2,Is,reduceIte,Qn,Qr,Ab f,k,Ab e,IP,QM,Ag,QK]
  all_goals exact Qj
 by_cases x:c=109
 ·subst x;simp only[↓C2,Is,reduceIte,Qn,Qr,Ab f,hO,Ab e,IP,QM,Ag,QK]
  all_goals exact Qj
 by_cases r:c=112
 ·subst r;simp only[↓C2,Is,reduceIte,Qn,Qr,Ab q,hP,QM,Ag,QK]
  all_goals exact Qj
 by_cases v:c=113
 ·subst v;simp only[↓C2,Is,reduceIte,Qn,Qr,Ab q,hQ,QM,Ag,QK]
  all_goals exact Qj
 by_cases o:c=110
 ·subst o;simp only[↓C2,Is,reduceIte,Qn,Qr,Ab d,hN,Ab e,IP,QM,Ag,QK]
  all_goals exact Qj
 by_cases i:c=99
 ·subst i;simp only[↓C2,Is,reduceIte,Qn,Qr,Ab d,h,Ab e,IP,QM,Ag,QK]
  all_goals exact Qj
 by_cases h108:c=108
 ·subst h108;simp only[↓C2,Is,reduceIte,Qn,Qr,Ab g,j,Ab e,IP,QM,Ag,QK]
  all_goals exact Qj
 by_cases z:c=114
 ·subst z;simp only[↓C2,Is,reduceIte,Qn,Qr,Ab u,hR,QM,Ag,QK]
  all_goals exact Qj
 by_cases b:c=107
 ·subst b;simp only[↓C2,Is,reduceIte,Qn,Qr,Ab e,IP,QM,Ag,QK]
  all_goals exact Qj
 simp only[↓C2,Ij,reduceIte,Qn,Qr,y,x,r,v,o,i,h108,z,b,Qu,and_self]
 all_goals exact Qj
def aKD:List D->Option D:=FX (λp:Ak×Int=>[IB p.1,.int .u8 p.2]) (λp=>ID p.1) (λp=> .int .i64 (BI p.1 p.2))
def aKC{a:Ak}{c:Int}(h:ID a):aKD [IB a,.int .u8 c]=some (.int .i64 (BI a c)):=
 Bl (mk:=λp:Ak×Int=>[IB p.1,.int .u8 p.2]) (a:=(a,c)) (λx y e=>by
  simp only[Qo,D.int.injEq,true_and,and_true]at e;exact Q3 (DF e.1) e.2) h
def aQo:Kq aKD 161:=aVj
def aGW{S:Ic}{a:Ak}{Q:Ex->St->Prop}(hb:a.ns.length<=1000)(p:∀x∈a.ns,0<=x∧x<1000)(d:S 349=some (Af (iD 1000)))
  (u:∀z,z.s 5= .str (BW (CG a.ns))->Q (.exit 0) z):
  ∀(f j:Nat) z g,a.ns.length=j+f->z.s 2= .ptr [0] 0->z.m [0] 7=some (.slice a.nln [] (AE a.ns))->z.s 5= .str (BW (CG (a.ns.take j)))->z.s 6= .int .i64 (j:Int)->A2 S [] Rf Q z g:=by
 intro f;induction f with
 |zero=>
  intro j z g hf q c h5 h6;refine Ae Rf.eq_1 ?_;have:¬((j:Int)<a.ns.length):=O
  simp only[↓C2,Ih,Ii,reduceIte,Qn,Qr,q,c,h6,this,Bb,Qu];rw[QH O]at h5;exact u _ h5
 |succ f ih=>
  intro j z g hf q c h5 h6;refine Ae Rf.eq_1 ?_;have k:j<a.ns.length:=O
  have v:((j:Int)<a.ns.length):=O
  have qa:=nJ (j:=j);have hw:=wJ (j:=j) O;have o:=p a.ns[j] (QQ k);obtain⟨n,r⟩:∃n:Nat,a.ns[j]=(n:Int):=⟨a.ns[j].toNat,O⟩;have w:(AE a.ns)[j]?=some (.int .i64 (n:Int)):=by simp[AE,Qs k,r]
  have i:=RY (b:=1000) (n:=n) ⟨O,O⟩;have h:CG (a.ns.take (j+1))=CG (a.ns.take j)++[BC n]:=by rw[QX,Qs k];simp[CG,r]
  have ta:=FS n;have ya:(BW (CG (a.ns.take j))).length<=10000:=by
   have e1:=EK (CG (a.ns.take j));have e2:=HH (l:=CG (a.ns.take j)) (b:=3) λx oa=>by
    obtain⟨y,hy,rfl⟩:=Zd.1 oa;exact FS _
   rw[DD,Zc]at e1 e2;omega
  obtain⟨ja,t,fa⟩:=z;simp only at q c h5 h6;by_cases hz:0<j
  ·have pa:((0:Int)<(j:Int)):=by omega
   have ma:CG (a.ns.take j)≠[]:=by
    grind [DD]
   have l1:((BW (CG (a.ns.take j))).length+1<=9223372036854775807)=True:=eq_true O;have l2:((BW (CG (a.ns.take j))).length+1+(BC n).length<=9223372036854775807)=True:=eq_true O;simp only[↓C2,Iw,Ii,reduceIte,Qn,Qr,q,c,h5,h6,v,qa,hw,pa,Qv,w,Bb,Ab d,i,l1,l2,QJ];refine ih (j+1) _ _ O ?_ ?_ ?_ ?_
   ·exact q
   ·exact c
   ·simp only[↓C2,IM,reduceIte,Qn];rw[h,Nm _ _ ma];simp
   ·rfl
  ·have pa:¬((0:Int)<(j:Int)):=by omega
   obtain rfl:j=0:=O
   have l2:((BW (CG [])).length+(BC n).length<=9223372036854775807)=True:=eq_true (by have e:BW (CG [])=[]:=rfl;rw[e,QD];omega);simp only[↓C2,Iw,Ii,reduceIte,Qn,Qr,q,c,h5,h6,v,qa,hw,pa,Qv,w,Bb,Ab d,i,l2,QL];refine ih (0+1) _ _ O ?_ ?_ ?_ ?_
   ·exact q
   ·exact c
   ·simp only[↓C2,IM,reduceIte,Qn,Qr];rw[h];rfl
   ·rfl
def aKh:List D->Option D:=FX (λp:Ak×Int=>[IB p.1,.int .u8 p.2]) (λp=>ID p.1∧L7 p.1 p.2∧p.2.toNat∈IN∧0<=p.2) (λp=> .str (Fi p.1 p.2))
def aKg{a:Ak}{c:Int}(h:ID a)(q:L7 a c)(o:c.toNat∈IN)(b:0<=c):aKh [IB a,.int .u8 c]=some (.str (Fi a c)):=
 Bl (mk:=λp:Ak×Int=>[IB p.1,.int .u8 p.2]) (a:=(a,c)) (λx y e=>by
  simp only[Qo,D.int.injEq,true_and,and_true]at e;exact Q3 (DF e.1) e.2) ⟨h,q,o,b⟩
def aUM:Kq aKh 269:=by
 obtain⟨S,hS,w⟩:=A7 (Aa aUt (Aa aLe (Aa aLf Ad)));have d:=w 349 _ rfl;have g:=w 282 _ rfl;have h:=w 270 _ rfl;clear w;refine Bo hS (Ai func269:Fn Qw 269 88 aNf [.t 4]) (λ_=>U) (λp m=>?_);obtain⟨a,c⟩:=p;obtain⟨m,⟨y,hC,hL⟩,hm,o⟩:=m;simp only at m y hC hL hm o;have ca:c=116∨c=112∨c=109∨c=113∨c=110∨c=99∨c=102∨c=108∨c=100∨c=114∨c=107:=by
  simp only[IN,Q0,Zf,or_false]at hm;omega
 unfold Fi orN aNf IB It;simp only;rcases ca with rfl|rfl|rfl|rfl|rfl|rfl|rfl|rfl|rfl|rfl|rfl
 ·simp only[↓C2,Is,reduceIte,Qn,Qr,QM,or_self,Ag,QK]
  all_goals exact Qj
 ·simp only[↓C2,Is,reduceIte,Qn,Qr,QM,or_self,Ag,QK]
  all_goals exact Qj
 ·simp only[↓C2,Is,reduceIte,Qn,Qr,QM,true_or,Ag,QK]
  all_goals exact Qj
 ·simp only[↓C2,Is,reduceIte,Qn,Qr,QM,or_true,Ag,QK]
  all_goals exact Qj
 ·have hn:=y rfl;obtain⟨n,qa⟩:∃n:Nat,a.n=(n:Int):=⟨a.n.toNat,O⟩;have i:=RY (b:=1000) (n:=n) O;rw[qa];simp only[↓C2,Is,reduceIte,Qn,Qr,Ab d,i,Qv,QM,or_self,Ag,QK]
  all_goals exact Qj
 ·have k:=hC rfl;by_cases u:a.cas=-1
  ·rw[u];have v:¬((-1:Int)≥0):=by omega
   simp only[↓C2,Is,reduceIte,Qn,Qr,v,QM,or_self,Ag,QK]
   all_goals exact Qj
  ·obtain⟨n,qa⟩:∃n:Nat,a.cas=(n:Int):=⟨a.cas.toNat,O⟩;have i:=RY (b:=1000) (n:=n) O;have v:((n:Int)≥0):=by omega
   rw[qa]at u ⊢;simp only[↓C2,Is,reduceIte,Qn,Qr,u,v,Ab d,i,Qv,QM,or_self,Ag,QK]
   all_goals exact Qj
 ·cases a.fl<;>simp only[↓C2,Is,reduceIte,Qn,Qr,QM,or_self,Ag,QK]
  all_goals exact Qj
 ·have w:=hL rfl;simp only[↓C2,Ij,reduceIte,Qn,Qr,QM,Qu];refine aGW (a:=a) m.ns w d (λz q=>?_) a.ns.length 0 _ _ O rfl ?_ rfl rfl
  ·cases hz:BW (CG a.ns)with
   |nil=>
    rw[hz]at q;simp only[↓C2,Ij,reduceIte,Qn,Qr,q,QM,or_self,and_self]
    all_goals exact Qj
   |cons x r=>
    have j:((x::r)==([]:Bs))=false:=rfl;rw[hz]at q;simp only[↓C2,Ij,reduceIte,Qn,Qr,q,reduceCtorEq,QM,or_self,and_self]
    all_goals exact Qj
  ·simp only[IM,reduceIte,Qr,Ag,Qz,QK,QE,QA,QD,Qu,QB,QG,and_self]
 ·have e:=MB (s:=a.da) (by have:=m.da;omega);cases hz:Lj a.da with
  |nil=>
   rw[hz]at e;simp only[↓C2,Is,reduceIte,Qn,Qr,Ab g,e,QM,or_self,Ag,QK]
   all_goals exact Qj
  |cons x r=>
   have j:((x::r)==([]:Bs))=false:=rfl;rw[hz]at e;simp only[↓C2,Is,reduceIte,Qn,Qr,Ab g,e,reduceCtorEq,QM,or_self,Ag,QK]
   all_goals exact Qj
 ·have f:=W8 (nl:=a.nlr) (l:=a.rs) (by have:=m.rl;omega) m.rs;cases hz:(if CT a.rs=0 then BW (BD a.rs)else [])with
  |nil=>
   rw[hz]at f;simp only[↓C2,Is,reduceIte,Qn,Qr,Ab h,f,QM,or_self,Ag,QK]
   all_goals exact Qj
  |cons x r=>
   have j:((x::r)==([]:Bs))=false:=rfl;rw[hz]at f;simp only[↓C2,Is,reduceIte,Qn,Qr,Ab h,f,reduceCtorEq,QM,or_self,Ag,QK]
   all_goals exact Qj
 ·have e:=MB (s:=a.key) (by have:=m.key;omega);simp only[↓C2,Is,reduceIte,Qn,Qr,Ab g,e,QM,or_self,Ag,QK]
  all_goals exact Qj
theorem forms_let:Fr.all (λp=>p.2.all λc=>IN.contains c.toNat)=true:=Xp
def aCW(op:Int):∀c∈B8 op,c.toNat∈IN:=by
 unfold B8;have:∀p:Bs×Bs,p=([],[])∨p∈Fr->∀c∈p.2,c.toNat∈IN:=by
  grind [forms_let]
 refine this _ ?_;by_cases h:op.toNat<Fr.length
 ·simp_all
 ·simp_all
def aHf{S:Ic}{a:Ak}(q:ID a)(b:S 269=some (Af aKh)){ls:Bs}(qa:ls.length<=20)(e:∀c∈ls,c.toNat∈IN)(ca:∀c∈ls,L7 a (c.toNat:Int)){w0:Bs}(ma:w0.length<=20){Q:Ex->St->Prop}
  (ia:∀z,z.s 3= .str (w0++ls.flatMap λc=>32::Fi a (c.toNat:Int))->Q (.exit 0) z):
  ∀(f p:Nat) z g,ls.length=p+f->z.s 1= .ptr [0] 0->z.s 3= .str (w0++(ls.take p).flatMap λc=>32::Fi a (c.toNat:Int))->z.s 4= .str ls->z.s 5= .int .i64 (p:Int)->Ah z.m [0] 0 11=some (It a)->
   A2 S [] RB Q z g:=by
 intro f;induction f with
 |zero=>
  intro p z g hf u o h4 h5 hm;refine Ae RB.eq_1 ?_;have v:¬((p:Int)<(ls.length:Int)):=O
  simp only[↓C2,Ih,Ii,simprocAttr,h4,h5,v];refine ia _ ?_;simp only[↓C2,reduceIte,Qn,o];rw[QH O]
 |succ f ih=>
  intro p z g hf u o h4 h5 hm;refine Ae RB.eq_1 ?_;have v:((p:Int)<(ls.length:Int)):=O
  have la:(0:Int)<=(p:Int):=O
  have k:p<ls.length:=O
  have hw:IntKind.i64.wrap ((p:Int)+1)=((p+1:Nat):Int):=Iz O O;have w:ls[p]?=some ls[p]:=Qs k;have n:ls[p]∈ls:=QQ k;have d:aKh [.agg (It a),.int .u8 (ls[p].toNat:Int)]=some (.str (Fi a (ls[p].toNat:Int))):=aKg q (ca _ n) (by rw[Qv];exact e _ n) O;have j:=N3 (c:=(ls[p].toNat:Int)) q;have na:ls.take (p+1)=ls.take p++[ls[p]]:=YC
  have y:((ls.take p).flatMap λc=>32::Fi a (c.toNat:Int)).length<=100001*20:=by
   have:∀(l:Bs),((l.flatMap λc=>32::Fi a (c.toNat:Int))).length<=100001*l.length:=by
    intro l;induction l with
    |nil=>simp
    |cons x r ih=>
     have:=N3 (c:=(x.toNat:Int)) q;simp only[Q1,QJ,QA,ZP];omega
   have h:=this (ls.take p);have h':(ls.take p).length<=20:=Xg
   omega
  have ua:(w0.length+((ls.take p).flatMap λc=>32::Fi a (c.toNat:Int)).length+1<=9223372036854775807)=True:=eq_true O;have ra:(w0.length+((ls.take p).flatMap λc=>32::Fi a (c.toNat:Int)).length+1+(Fi a (ls[p].toNat:Int)).length<=9223372036854775807)=True:=eq_true O;generalize ls[p]=c at w d na ra;obtain⟨i,t,fa⟩:=z;simp only at u o h4 h5 hm;simp only[↓C2,Iw,Ii,simprocAttr,u,o,h4,h5,hm,v,la,Qv,w,Ab b,d,ua,ra,Bp,Bq,QJ];refine AF.intro (Ce ?_) ?_
  ·grind [Ec,BP]
  simp only[↓C2,Ih,simprocAttr,h5,hw];refine ih (p+1) _ _ O ?_ ?_ ?_ ?_ ?_
  ·exact u
  ·simp only[↓C2,reduceIte,Qn];rw[na];simp
  ·exact h4
  ·rfl
  ·exact hm
def aTk:List D->Option D:=FX (λa:Ak=>[IB a]) (λa=>ID a∧a.op<19∧∀c∈B8 a.op,L7 a (c.toNat:Int)) (λa=> .str (Fq a))
def aKA{a:Ak}(h:ID a)(u:a.op<19)(q:∀c∈B8 a.op,L7 a (c.toNat:Int)):aTk [IB a]=some (.str (Fq a)):=
 Bl (mk:=λa:Ak=>[IB a]) (λx y e=>by
  simp only[Qo,and_true]at e;exact DF e) ⟨h,u,q⟩
def oW{n:Int}(r:0<=n)(h:n<256):IntKind.i64.wrap n=n:=Iz O O
def aVh:Kq aTk 163:=by
 obtain⟨S,v,w⟩:=A7 (Aa aUN (Aa aBK (Aa aUM Ad)));have c:=w 268 _ rfl;have g:=w 160 _ rfl;have b:=w 269 _ rfl;clear w;refine Bo v (Ai func163:Fn Qw 163 29 aOC [.t 2]) (λ_=>U) (λa k=>?_);obtain⟨q,e,x⟩:=k;have d:=aI8 q.op0 e;have f:=tJ q.op0 e;obtain⟨y,o,j⟩:=PZ a.op;have h:=oW q.op0 q.op;have u:∀m:Ig,m.put [0] 0 (It a) [0] 0=some (.int .u8 a.op):=λm=>by
  rw[Ag,if_pos ⟨rfl,QZ _,XX⟩];rfl
 unfold Fq aOC IB;simp only[↓C2,Ij,simprocAttr,Ab c,d,Ab g,f,h,u,AA,Qu];refine aHf (ls:=B8 a.op) (w0:=DK a.op) q b o (aCW _) x y (λz n=>?_) (B8 a.op).length 0 _ _ O rfl ?_ rfl rfl ?_
 ·simp only[↓C2,Ij,simprocAttr,n]
  all_goals exact Qj
 ·simp only[↓C2,Ih,reduceIte,Qn,QL,Q4,Zi]
 ·exact AX (AQ a)
def Av:List DOper:=[⟨some 7,.mv (.t 3),[],none⟩,⟨some 8,.call (.c (.fn 267 [])) [(.t 7),(.c (.int .u8 116))],[],none⟩,⟨some 9,.mv (.t 8),[],none⟩,⟨some 10,.faddr 1 (.t 1),[],some (2,false)⟩,⟨some 11,.load none (.t 10),[],some (2,false)⟩,⟨some 12,.bin .eql (.t 11) (.c (.str [])),[],some (2,false)⟩,⟨some 13,.pick (.t 9) (.c (.bool true)) (.t 12),[],none⟩,⟨some 14,.mv (.t 13),[],none⟩,⟨some 15,.mv (.t 3),[],some (7,true)⟩,⟨some 16,.call (.c (.fn 267 [])) [(.t 15),(.c (.int .u8 112))],[],some (7,true)⟩,⟨some 17,.mv (.t 16),[],some (7,true)⟩,⟨some 18,.faddr 2 (.t 1),[],some (10,false)⟩,⟨some 19,.load none (.t 18),[],some (10,false)⟩,⟨some 20,.bin .eql (.t 19) (.c (.str [])),[],some (10,false)⟩,⟨some 21,.pick (.t 17) (.c (.bool true)) (.t 20),[],some (7,true)⟩,⟨some 22,.pick (.t 14) (.t 21) (.c (.bool false)),[],none⟩,⟨some 23,.mv (.t 22),[],none⟩,⟨some 24,.mv (.t 3),[],some (16,true)⟩,⟨some 25,.call (.c (.fn 267 [])) [(.t 24),(.c (.int .u8 109))],[],some (16,true)⟩,⟨some 26,.mv (.t 25),[],some (16,true)⟩,⟨some 27,.mv (.t 3),[],some (19,false)⟩,⟨some 28,.call (.c (.fn 267 [])) [(.t 27),(.c (.int .u8 113))],[],some (19,false)⟩,⟨some 29,.pick (.t 26) (.c (.bool true)) (.t 28),[],some (16,true)⟩,⟨some 30,.mv (.t 29),[],some (16,true)⟩,⟨some 31,.faddr 3 (.t 1),[],some (23,false)⟩,⟨some 32,.load none (.t 31),[],some (23,false)⟩,⟨some 33,.bin .eql (.t 32) (.c (.str [])),[],some (23,false)⟩,⟨some 34,.pick (.t 30) (.c (.bool true)) (.t 33),[],some (16,true)⟩,⟨some 35,.pick (.t 23) (.t 34) (.c (.bool false)),[],none⟩,⟨some 36,.mv (.t 35),[],none⟩,⟨some 37,.mv (.t 3),[],some (29,true)⟩,⟨some 38,.call (.c (.fn 267 [])) [(.t 37),(.c (.int .u8 110))],[],some (29,true)⟩,⟨some 39,.mv (.t 38),[],some (29,true)⟩,⟨some 40,.faddr 4 (.t 1),[],some (32,false)⟩,⟨some 41,.load none (.t 40),[],some (32,false)⟩,⟨some 42,.bin .eql (.t 41) (.c (.int .i64 0)),[],some (32,false)⟩,⟨some 43,.pick (.t 39) (.c (.bool true)) (.t 42),[],some (29,true)⟩,⟨some 44,.pick (.t 36) (.t 43) (.c (.bool false)),[],none⟩,⟨some 45,.mv (.t 44),[],none⟩,⟨some 46,.mv (.t 3),[],some (38,true)⟩,⟨some 47,.call (.c (.fn 267 [])) [(.t 46),(.c (.int .u8 99))],[],some (38,true)⟩,⟨some 48,.mv (.t 47),[],some (38,true)⟩,⟨some 49,.faddr 5 (.t 1),[],some (41,false)⟩,⟨some 50,.load none (.t 49),[],some (41,false)⟩,⟨some 51,.bin .eql (.t 50) (.c (.int .i64 0)),[],some (41,false)⟩,⟨some 52,.pick (.t 48) (.c (.bool true)) (.t 51),[],some (38,true)⟩,⟨some 53,.pick (.t 45) (.t 52) (.c (.bool false)),[],none⟩,⟨some 54,.mv (.t 53),[],none⟩,⟨some 55,.mv (.t 3),[],some (47,true)⟩,⟨some 56,.call (.c (.fn 267 [])) [(.t 55),(.c (.int .u8 102))],[],some (47,true)⟩,⟨some 57,.mv (.t 56),[],some (47,true)⟩,⟨some 58,.faddr 6 (.t 1),[],some (50,false)⟩,⟨some 59,.load none (.t 58),[],some (50,false)⟩,⟨some 60,.un .not (.t 59),[],some (50,false)⟩,⟨some 61,.pick (.t 57) (.c (.bool true)) (.t 60),[],some (47,true)⟩,⟨some 62,.pick (.t 54) (.t 61) (.c (.bool false)),[],none⟩,⟨some 63,.mv (.t 62),[],none⟩,⟨some 64,.mv (.t 3),[],some (56,true)⟩,⟨some 65,.call (.c (.fn 267 [])) [(.t 64),(.c (.int .u8 108))],[],some (56,true)⟩,⟨some 66,.mv (.t 65),[],some (56,true)⟩,⟨some 67,.faddr 7 (.t 1),[],some (59,false)⟩,⟨some 68,.load none (.t 67),[],some (59,false)⟩,⟨some 69,.len false (.t 68),[],some (59,false)⟩,⟨some 70,.bin .eql (.t 69) (.c (.int .i64 0)),[],some (59,false)⟩,⟨some 71,.pick (.t 66) (.c (.bool true)) (.t 70),[],some (56,true)⟩,⟨some 72,.pick (.t 63) (.t 71) (.c (.bool false)),[],none⟩,⟨some 73,.mv (.t 72),[],none⟩,⟨some 74,.mv (.t 3),[],some (66,true)⟩,⟨some 75,.call (.c (.fn 267 [])) [(.t 74),(.c (.int .u8 100))],[],some (66,true)⟩,⟨some 76,.mv (.t 75),[],some (66,true)⟩,⟨some 77,.faddr 8 (.t 1),[],some (69,false)⟩,⟨some 78,.load none (.t 77),[],some (69,false)⟩,⟨some 79,.bin .eql (.t 78) (.c (.str [])),[],some (69,false)⟩,⟨some 80,.pick (.t 76) (.c (.bool true)) (.t 79),[],some (66,true)⟩,⟨some 81,.pick (.t 73) (.t 80) (.c (.bool false)),[],none⟩,⟨some 82,.mv (.t 81),[],none⟩,⟨some 83,.mv (.t 3),[],some (75,true)⟩,⟨some 84,.call (.c (.fn 267 [])) [(.t 83),(.c (.int .u8 114))],[],some (75,true)⟩,⟨some 85,.mv (.t 84),[],some (75,true)⟩,⟨some 86,.faddr 9 (.t 1),[],some (78,false)⟩,⟨some 87,.load none (.t 86),[],some (78,false)⟩,⟨some 88,.len false (.t 87),[],some (78,false)⟩,⟨some 89,.bin .eql (.t 88) (.c (.int .i64 0)),[],some (78,false)⟩,⟨some 90,.pick (.t 85) (.c (.bool true)) (.t 89),[],some (75,true)⟩,⟨some 91,.pick (.t 82) (.t 90) (.c (.bool false)),[],none⟩,⟨some 92,.mv (.t 91),[],none⟩,⟨some 93,.mv (.t 3),[],some (85,true)⟩,⟨some 94,.call (.c (.fn 267 [])) [(.t 93),(.c (.int .u8 107))],[],some (85,true)⟩,⟨some 95,.mv (.t 94),[],some (85,true)⟩,⟨some 96,.faddr 10 (.t 1),[],some (88,false)⟩,⟨some 97,.load none (.t 96),[],some (88,false)⟩,⟨some 98,.bin .eql (.t 97) (.c (.str [])),[],some (88,false)⟩,⟨some 99,.pick (.t 95) (.c (.bool true)) (.t 98),[],some (85,true)⟩,⟨some 100,.pick (.t 92) (.t 99) (.c (.bool false)),[],none⟩,⟨some 2,.mv (.t 100),[],none⟩]
def aWa{α:Type}(l:List α):(((l.length:Nat):Int)=0)=(l.isEmpty=true):=by cases l<;>simp<;>omega
def mE{b:Bool}:decide (b=true)=b:=by cases b<;>rfl
def aAX{S:Ic}(v:S 267=some (Af Fk)){a:Ak}(d:Fk [.int .i64 a.op,.int .u8 116]=some (.bool (Ck a.op 116))){l:Nat}{s:Nat->D}{m:Ig}{K:Nat->(Nat->D)->Ig->Prop}(u:s 1= .ptr [0] 0)(o:s 3= .int .i64 a.op)(z:m [0] 1=some (.str a.tk))
  (j:∀w,w 1= .ptr [0] 0->w 3= .int .i64 a.op->w 13= .bool (Ck a.op 116||decide (a.tk=[]))->CJ S [] l Av (Av.drop 7) 7 w m K):CJ S [] l Av (Av.drop 0) 0 s m K:=by
 have e:Av.drop 0=⟨some 7,.mv (.t 3),[],none⟩::⟨some 8,.call (.c (.fn 267 [])) [(.t 7),(.c (.int .u8 116))],[],none⟩::⟨some 9,.mv (.t 8),[],none⟩::⟨some 10,.faddr 1 (.t 1),[],some (2,false)⟩::⟨some 11,.load none (.t 10),[],some (2,false)⟩::⟨some 12,.bin .eql (.t 11) (.c (.str [])),[],some (2,false)⟩::⟨some 13,.pick (.t 9) (.c (.bool true)) (.t 12),[],none⟩::Av.drop 7:=rfl;rw[e];have f:BB Av 2=some 9:=rfl;generalize Av.drop 7=r at j ⊢;generalize Av=ops at *;generalize Ck a.op 116=b at *;cases b<;>(
  (simp only[↓C2,Ij,simprocAttr,u,o,z,Ab v,d,f,Qu])
  (refine j _ ?_ ?_ ?_<;>simp only[↓C2,reduceIte,Qn,u,o,QF,QN]))
def aAW{S:Ic}(v:S 267=some (Af Fk)){a:Ak}(d:Fk [.int .i64 a.op,.int .u8 112]=some (.bool (Ck a.op 112))){l:Nat}{s:Nat->D}{m:Ig}{K:Nat->(Nat->D)->Ig->Prop}{b:Bool}(u:s 1= .ptr [0] 0)(o:s 3= .int .i64 a.op)(y:s 13= .bool b)(z:m [0] 2=some (.str a.pa))
  (j:∀w,w 1= .ptr [0] 0->w 3= .int .i64 a.op->w 22= .bool (b&&(Ck a.op 112||decide (a.pa=[])))->CJ S [] l Av (Av.drop 16) 16 w m K):CJ S [] l Av (Av.drop 7) 7 s m K:=by
 have e:Av.drop 7=⟨some 14,.mv (.t 13),[],none⟩::⟨some 15,.mv (.t 3),[],some (7,true)⟩::⟨some 16,.call (.c (.fn 267 [])) [(.t 15),(.c (.int .u8 112))],[],some (7,true)⟩::⟨some 17,.mv (.t 16),[],some (7,true)⟩::⟨some 18,.faddr 2 (.t 1),[],some (10,false)⟩::⟨some 19,.load none (.t 18),[],some (10,false)⟩::⟨some 20,.bin .eql (.t 19) (.c (.str [])),[],some (10,false)⟩::⟨some 21,.pick (.t 17) (.c (.bool true)) (.t 20),[],some (7,true)⟩::⟨some 22,.pick (.t 14) (.t 21) (.c (.bool false)),[],none⟩::Av.drop 16:=rfl;rw[e];have k:BB Av 7=some 14:=rfl;have g:BB Av 10=some 17:=rfl;generalize Av.drop 16=r at j ⊢;generalize Av=ops at *;generalize Ck a.op 112=f at *;cases b<;>cases f<;>(
  (simp only[↓C2,Ij,simprocAttr,u,o,z,Ab v,d,y,k,g,Qu])
  (refine j _ ?_ ?_ ?_<;>simp only[↓C2,Ii,reduceIte,Qn,u,o,QF,QN,QC]))
def aAV{S:Ic}(v:S 267=some (Af Fk)){a:Ak}(h:Fk [.int .i64 a.op,.int .u8 109]=some (.bool (Ck a.op 109)))(f:Fk [.int .i64 a.op,.int .u8 113]=some (.bool (Ck a.op 113))){l:Nat}{s:Nat->D}{m:Ig}{K:Nat->(Nat->D)->Ig->Prop}{b:Bool}(u:s 1= .ptr [0] 0)(o:s 3= .int .i64 a.op)(y:s 22= .bool b)(z:m [0] 3=some (.str a.ot))
  (hk:∀w,w 1= .ptr [0] 0->w 3= .int .i64 a.op->w 35= .bool (b&&(Ck a.op 109||Ck a.op 113||decide (a.ot=[])))->CJ S [] l Av (Av.drop 29) 29 w m K):CJ S [] l Av (Av.drop 16) 16 s m K:=by
 have e:Av.drop 16=⟨some 23,.mv (.t 22),[],none⟩::⟨some 24,.mv (.t 3),[],some (16,true)⟩::⟨some 25,.call (.c (.fn 267 [])) [(.t 24),(.c (.int .u8 109))],[],some (16,true)⟩::⟨some 26,.mv (.t 25),[],some (16,true)⟩::⟨some 27,.mv (.t 3),[],some (19,false)⟩::⟨some 28,.call (.c (.fn 267 [])) [(.t 27),(.c (.int .u8 113))],[],some (19,false)⟩::⟨some 29,.pick (.t 26) (.c (.bool true)) (.t 28),[],some (16,true)⟩::⟨some 30,.mv (.t 29),[],some (16,true)⟩::⟨some 31,.faddr 3 (.t 1),[],some (23,false)⟩::⟨some 32,.load none (.t 31),[],some (23,false)⟩::⟨some 33,.bin .eql (.t 32) (.c (.str [])),[],some (23,false)⟩::⟨some 34,.pick (.t 30) (.c (.bool true)) (.t 33),[],some (16,true)⟩::⟨some 35,.pick (.t 23) (.t 34) (.c (.bool false)),[],none⟩::Av.drop 29:=rfl;rw[e];have j:BB Av 16=some 23:=rfl;have i:BB Av 19=some 26:=rfl;have k:BB Av 23=some 30:=rfl;generalize Av.drop 29=r at hk ⊢;generalize Av=ops at *;generalize Ck a.op 109=g at *;generalize Ck a.op 113=d at *;cases b<;>cases g<;>cases d<;>(
  (simp only[↓C2,Ij,simprocAttr,u,o,z,Ab v,h,f,y,j,i,k,Qu])
  (refine hk _ ?_ ?_ ?_<;>simp only[↓C2,Ii,reduceIte,Qn,u,o,QF,QN,QT,Q8,QC]))
def aAU{S:Ic}(v:S 267=some (Af Fk)){a:Ak}(d:Fk [.int .i64 a.op,.int .u8 110]=some (.bool (Ck a.op 110))){l:Nat}{s:Nat->D}{m:Ig}{K:Nat->(Nat->D)->Ig->Prop}{b:Bool}(u:s 1= .ptr [0] 0)(o:s 3= .int .i64 a.op)(y:s 35= .bool b)(z:m [0] 4=some (.int .i64 a.n))
  (j:∀w,w 1= .ptr [0] 0->w 3= .int .i64 a.op->w 44= .bool (b&&(Ck a.op 110||decide (a.n=0)))->CJ S [] l Av (Av.drop 38) 38 w m K):CJ S [] l Av (Av.drop 29) 29 s m K:=by
 have e:Av.drop 29=⟨some 36,.mv (.t 35),[],none⟩::⟨some 37,.mv (.t 3),[],some (29,true)⟩::⟨some 38,.call (.c (.fn 267 [])) [(.t 37),(.c (.int .u8 110))],[],some (29,true)⟩::⟨some 39,.mv (.t 38),[],some (29,true)⟩::⟨some 40,.faddr 4 (.t 1),[],some (32,false)⟩::⟨some 41,.load none (.t 40),[],some (32,false)⟩::⟨some 42,.bin .eql (.t 41) (.c (.int .i64 0)),[],some (32,false)⟩::⟨some 43,.pick (.t 39) (.c (.bool true)) (.t 42),[],some (29,true)⟩::⟨some 44,.pick (.t 36) (.t 43) (.c (.bool false)),[],none⟩::Av.drop 38:=rfl;rw[e];have g:BB Av 29=some 36:=rfl;have h:BB Av 32=some 39:=rfl;generalize Av.drop 38=r at j ⊢;generalize Av=ops at *;generalize Ck a.op 110=f at *;cases b<;>cases f<;>(
  (simp only[↓C2,Ij,simprocAttr,u,o,z,Ab v,d,y,g,h,Qu])
  (refine j _ ?_ ?_ ?_<;>simp only[↓C2,Ii,reduceIte,Qn,u,o,QF,QN,QC]))
def aAT{S:Ic}(v:S 267=some (Af Fk)){a:Ak}(h:Fk [.int .i64 a.op,.int .u8 99]=some (.bool (Ck a.op 99))){l:Nat}{s:Nat->D}{m:Ig}{K:Nat->(Nat->D)->Ig->Prop}{b:Bool}(u:s 1= .ptr [0] 0)(o:s 3= .int .i64 a.op)(y:s 44= .bool b)(z:m [0] 5=some (.int .i64 a.cas))
  (j:∀w,w 1= .ptr [0] 0->w 3= .int .i64 a.op->w 53= .bool (b&&(Ck a.op 99||decide (a.cas=0)))->CJ S [] l Av (Av.drop 47) 47 w m K):CJ S [] l Av (Av.drop 38) 38 s m K:=by
 have e:Av.drop 38=⟨some 45,.mv (.t 44),[],none⟩::⟨some 46,.mv (.t 3),[],some (38,true)⟩::⟨some 47,.call (.c (.fn 267 [])) [(.t 46),(.c (.int .u8 99))],[],some (38,true)⟩::⟨some 48,.mv (.t 47),[],some (38,true)⟩::⟨some 49,.faddr 5 (.t 1),[],some (41,false)⟩::⟨some 50,.load none (.t 49),[],some (41,false)⟩::⟨some 51,.bin .eql (.t 50) (.c (.int .i64 0)),[],some (41,false)⟩::⟨some 52,.pick (.t 48) (.c (.bool true)) (.t 51),[],some (38,true)⟩::⟨some 53,.pick (.t 45) (.t 52) (.c (.bool false)),[],none⟩::Av.drop 47:=rfl;rw[e];have f:BB Av 38=some 45:=rfl;have g:BB Av 41=some 48:=rfl;generalize Av.drop 47=r at j ⊢;generalize Av=ops at *;generalize Ck a.op 99=d at *;cases b<;>cases d<;>(
  (simp only[↓C2,Ij,simprocAttr,u,o,z,Ab v,h,y,f,g,Qu])
  (refine j _ ?_ ?_ ?_<;>simp only[↓C2,Ii,reduceIte,Qn,u,o,QF,QN,QC]))
def aAS{S:Ic}(v:S 267=some (Af Fk)){a:Ak}(f:Fk [.int .i64 a.op,.int .u8 102]=some (.bool (Ck a.op 102))){l:Nat}{s:Nat->D}{m:Ig}{K:Nat->(Nat->D)->Ig->Prop}{b:Bool}(u:s 1= .ptr [0] 0)(o:s 3= .int .i64 a.op)(y:s 53= .bool b)(z:m [0] 6=some (.bool a.fl))
  (j:∀w,w 1= .ptr [0] 0->w 3= .int .i64 a.op->w 62= .bool (b&&(Ck a.op 102||!a.fl))->CJ S [] l Av (Av.drop 56) 56 w m K):CJ S [] l Av (Av.drop 47) 47 s m K:=by
 have e:Av.drop 47=⟨some 54,.mv (.t 53),[],none⟩::⟨some 55,.mv (.t 3),[],some (47,true)⟩::⟨some 56,.call (.c (.fn 267 [])) [(.t 55),(.c (.int .u8 102))],[],some (47,true)⟩::⟨some 57,.mv (.t 56),[],some (47,true)⟩::⟨some 58,.faddr 6 (.t 1),[],some (50,false)⟩::⟨some 59,.load none (.t 58),[],some (50,false)⟩::⟨some 60,.un .not (.t 59),[],some (50,false)⟩::⟨some 61,.pick (.t 57) (.c (.bool true)) (.t 60),[],some (47,true)⟩::⟨some 62,.pick (.t 54) (.t 61) (.c (.bool false)),[],none⟩::Av.drop 56:=rfl;rw[e];have h:BB Av 47=some 54:=rfl;have g:BB Av 50=some 57:=rfl;generalize Av.drop 56=r at j ⊢;generalize Av=ops at *;generalize Ck a.op 102=d at *;cases b<;>cases d<;>(
  (simp only[↓C2,Ij,simprocAttr,u,o,z,Ab v,f,y,h,g,Qu])
  (refine j _ ?_ ?_ ?_<;>simp only[↓C2,Ii,reduceIte,Qn,u,o,QF,QN,QC]))
def aAR{S:Ic}(v:S 267=some (Af Fk)){a:Ak}(d:Fk [.int .i64 a.op,.int .u8 108]=some (.bool (Ck a.op 108))){l:Nat}{s:Nat->D}{m:Ig}{K:Nat->(Nat->D)->Ig->Prop}{b:Bool}(u:s 1= .ptr [0] 0)(o:s 3= .int .i64 a.op)(y:s 62= .bool b)(z:m [0] 7=some (.slice a.nln [] (AE a.ns)))
  (j:∀w,w 1= .ptr [0] 0->w 3= .int .i64 a.op->w 72= .bool (b&&(Ck a.op 108||a.ns.isEmpty))->CJ S [] l Av (Av.drop 66) 66 w m K):CJ S [] l Av (Av.drop 56) 56 s m K:=by
 have e:Av.drop 56=⟨some 63,.mv (.t 62),[],none⟩::⟨some 64,.mv (.t 3),[],some (56,true)⟩::⟨some 65,.call (.c (.fn 267 [])) [(.t 64),(.c (.int .u8 108))],[],some (56,true)⟩::⟨some 66,.mv (.t 65),[],some (56,true)⟩::⟨some 67,.faddr 7 (.t 1),[],some (59,false)⟩::⟨some 68,.load none (.t 67),[],some (59,false)⟩::⟨some 69,.len false (.t 68),[],some (59,false)⟩::⟨some 70,.bin .eql (.t 69) (.c (.int .i64 0)),[],some (59,false)⟩::⟨some 71,.pick (.t 66) (.c (.bool true)) (.t 70),[],some (56,true)⟩::⟨some 72,.pick (.t 63) (.t 71) (.c (.bool false)),[],none⟩::Av.drop 66:=rfl;rw[e];have g:BB Av 56=some 63:=rfl;have h:BB Av 59=some 66:=rfl;generalize Av.drop 66=r at j ⊢;generalize Av=ops at *;generalize Ck a.op 108=f at *;cases b<;>cases f<;>(
  (simp only[↓C2,Ij,simprocAttr,u,o,z,Ab v,d,y,g,h,Qu,Bb,aWa,mE])
  (refine j _ ?_ ?_ ?_<;>simp only[↓C2,Ii,reduceIte,Qn,u,o,QF,QN,QC]))
def aAQ{S:Ic}(v:S 267=some (Af Fk)){a:Ak}(f:Fk [.int .i64 a.op,.int .u8 100]=some (.bool (Ck a.op 100))){l:Nat}{s:Nat->D}{m:Ig}{K:Nat->(Nat->D)->Ig->Prop}{b:Bool}(u:s 1= .ptr [0] 0)(o:s 3= .int .i64 a.op)(y:s 72= .bool b)(z:m [0] 8=some (.str a.da))
  (j:∀w,w 1= .ptr [0] 0->w 3= .int .i64 a.op->w 81= .bool (b&&(Ck a.op 100||decide (a.da=[])))->CJ S [] l Av (Av.drop 75) 75 w m K):CJ S [] l Av (Av.drop 66) 66 s m K:=by
 have e:Av.drop 66=⟨some 73,.mv (.t 72),[],none⟩::⟨some 74,.mv (.t 3),[],some (66,true)⟩::⟨some 75,.call (.c (.fn 267 [])) [(.t 74),(.c (.int .u8 100))],[],some (66,true)⟩::⟨some 76,.mv (.t 75),[],some (66,true)⟩::⟨some 77,.faddr 8 (.t 1),[],some (69,false)⟩::⟨some 78,.load none (.t 77),[],some (69,false)⟩::⟨some 79,.bin .eql (.t 78) (.c (.str [])),[],some (69,false)⟩::⟨some 80,.pick (.t 76) (.c (.bool true)) (.t 79),[],some (66,true)⟩::⟨some 81,.pick (.t 73) (.t 80) (.c (.bool false)),[],none⟩::Av.drop 75:=rfl;rw[e];have g:BB Av 66=some 73:=rfl;have h:BB Av 69=some 76:=rfl;generalize Av.drop 75=r at j ⊢;generalize Av=ops at *;generalize Ck a.op 100=d at *;cases b<;>cases d<;>(
  (simp only[↓C2,Ij,simprocAttr,u,o,z,Ab v,f,y,g,h,Qu])
  (refine j _ ?_ ?_ ?_<;>simp only[↓C2,Ii,reduceIte,Qn,u,o,QF,QN,QC]))
def aAP{S:Ic}(v:S 267=some (Af Fk)){a:Ak}(d:Fk [.int .i64 a.op,.int .u8 114]=some (.bool (Ck a.op 114))){l:Nat}{s:Nat->D}{m:Ig}{K:Nat->(Nat->D)->Ig->Prop}{b:Bool}(u:s 1= .ptr [0] 0)(o:s 3= .int .i64 a.op)(y:s 81= .bool b)(z:m [0] 9=some (.slice a.nlr [] (Aj a.rs)))
  (j:∀w,w 1= .ptr [0] 0->w 3= .int .i64 a.op->w 91= .bool (b&&(Ck a.op 114||a.rs.isEmpty))->CJ S [] l Av (Av.drop 85) 85 w m K):CJ S [] l Av (Av.drop 75) 75 s m K:=by
 have e:Av.drop 75=⟨some 82,.mv (.t 81),[],none⟩::⟨some 83,.mv (.t 3),[],some (75,true)⟩::⟨some 84,.call (.c (.fn 267 [])) [(.t 83),(.c (.int .u8 114))],[],some (75,true)⟩::⟨some 85,.mv (.t 84),[],some (75,true)⟩::⟨some 86,.faddr 9 (.t 1),[],some (78,false)⟩::⟨some 87,.load none (.t 86),[],some (78,false)⟩::⟨some 88,.len false (.t 87),[],some (78,false)⟩::⟨some 89,.bin .eql (.t 88) (.c (.int .i64 0)),[],some (78,false)⟩::⟨some 90,.pick (.t 85) (.c (.bool true)) (.t 89),[],some (75,true)⟩::⟨some 91,.pick (.t 82) (.t 90) (.c (.bool false)),[],none⟩::Av.drop 85:=rfl;rw[e];have h:BB Av 75=some 82:=rfl;have g:BB Av 78=some 85:=rfl;generalize Av.drop 85=r at j ⊢;generalize Av=ops at *;generalize Ck a.op 114=f at *;cases b<;>cases f<;>(
  (simp only[↓C2,Ij,simprocAttr,u,o,z,Ab v,d,y,h,g,Qu,Aw,aWa,mE])
  (refine j _ ?_ ?_ ?_<;>simp only[↓C2,Ii,reduceIte,Qn,u,o,QF,QN,QC]))
def vB{S:Ic}(v:S 267=some (Af Fk)){a:Ak}(d:Fk [.int .i64 a.op,.int .u8 107]=some (.bool (Ck a.op 107))){l:Nat}{s:Nat->D}{m:Ig}{K:Nat->(Nat->D)->Ig->Prop}{b:Bool}(u:s 1= .ptr [0] 0)(o:s 3= .int .i64 a.op)(y:s 91= .bool b)(z:m [0] 10=some (.str a.key))
  (j:∀w,w 1= .ptr [0] 0->w 3= .int .i64 a.op->w 100= .bool (b&&(Ck a.op 107||decide (a.key=[])))->CJ S [] l Av (Av.drop 94) 94 w m K):CJ S [] l Av (Av.drop 85) 85 s m K:=by
 have e:Av.drop 85=⟨some 92,.mv (.t 91),[],none⟩::⟨some 93,.mv (.t 3),[],some (85,true)⟩::⟨some 94,.call (.c (.fn 267 [])) [(.t 93),(.c (.int .u8 107))],[],some (85,true)⟩::⟨some 95,.mv (.t 94),[],some (85,true)⟩::⟨some 96,.faddr 10 (.t 1),[],some (88,false)⟩::⟨some 97,.load none (.t 96),[],some (88,false)⟩::⟨some 98,.bin .eql (.t 97) (.c (.str [])),[],some (88,false)⟩::⟨some 99,.pick (.t 95) (.c (.bool true)) (.t 98),[],some (85,true)⟩::⟨some 100,.pick (.t 92) (.t 99) (.c (.bool false)),[],none⟩::Av.drop 94:=rfl;rw[e];have g:BB Av 85=some 92:=rfl;have h:BB Av 88=some 95:=rfl;generalize Av.drop 94=r at j ⊢;generalize Av=ops at *;generalize Ck a.op 107=f at *;cases b<;>cases f<;>(
  (simp only[↓C2,Ij,simprocAttr,u,o,z,Ab v,d,y,g,h,Qu])
  (refine j _ ?_ ?_ ?_<;>simp only[↓C2,Ii,reduceIte,Qn,u,o,QF,QN,QC]))
def UZ(a:Ak):Bool:=((((((((((Ck a.op 116||decide (a.tk=[]))&&(Ck a.op 112||decide (a.pa=[])))&&(Ck a.op 109||Ck a.op 113||decide (a.ot=[])))&&(Ck a.op 110||decide (a.n=0)))&&(Ck a.op 99||decide (a.cas=0)))&&(Ck a.op 102||!a.fl))&&(Ck a.op 108||a.ns.isEmpty))&&(Ck a.op 100||decide (a.da=[])))&&(Ck a.op 114||a.rs.isEmpty))&&(Ck a.op 107||decide (a.key=[])))
def aDw:aOD=(.seq (.row [⟨some 1,.box (.t 0),[],none⟩,⟨some 2,.mv (.c (.bool false)),[],none⟩]) (.seq (.row [⟨some 4,.faddr 0 (.t 1),[],none⟩,⟨some 5,.load none (.t 4),[],none⟩,⟨some 6,.conv .i64 (.t 5),[],none⟩,⟨some 3,.mv (.t 6),[],none⟩]) (.seq (.row Av) .ret))):=rfl
def aTl:List D->Option D:=FX (λa:Ak=>[IB a]) (λa=>ID a∧1<=a.op∧a.op<=18) (λa=> .bool (UZ a))
def aKB{a:Ak}(h:ID a)(u:1<=a.op)(q:a.op<=18):aTl [IB a]=some (.bool (UZ a)):=
 Bl (mk:=λa:Ak=>[IB a]) (λx y e=>by
  simp only[Qo,and_true]at e;exact DF e) ⟨h,u,q⟩
def aVi:Kq aTl 162:=by
 obtain⟨S,s,w⟩:=A7 (Aa aUO Ad);have v:=w 267 _ rfl;clear w;refine Bo s (Ai func162:Fn Qw 162 101 aOD [.t 2]) (λ_=>U) (λa m=>?_);obtain⟨x,u,q⟩:=m;have h:∀c∈IN,Fk [.int .i64 a.op,.int .u8 ((c:Nat):Int)]=some (.bool (Ck a.op c)):=λc hc=>aI9 x.op0 O hc
 have hu:=oW x.op0 x.op;have z:∀k d,(It a)[k]?=some d->(Ig.put (λ_ _=>none) [0] 0 (It a)) [0] k=some d:=λk d l=>by
  have j:=(Q2.1 l).1;rw[Ag,if_pos ⟨rfl,Qz _,O⟩];exact l
 have p:=z 0 _ rfl;unfold IB;rw[aDw];simp only[↓C2,Ij,simprocAttr,hu,p,AA,Qu];refine aAX v (h 116 Z) rfl rfl (z 1 _ rfl) (λs1 o y1 z1=>?_);refine aAW v (h 112 Z) o y1 z1 (z 2 _ rfl) (λn r y2 z2=>?_);refine aAV v (h 109 Z) (h 113 Z) r y2 z2 (z 3 _ rfl) (λs3 i y3 z3=>?_);refine aAU v (h 110 Z) i y3 z3 (z 4 _ rfl) (λs4 y y4 z4=>?_);refine aAT v (h 99 Z) y y4 z4 (z 5 _ rfl) (λs5 x5 y5 z5=>?_);refine aAS v (h 102 Z) x5 y5 z5 (z 6 _ rfl) (λs6 x6 y6 z6=>?_);refine aAR v (h 108 Z) x6 y6 z6 (z 7 _ rfl) (λs7 x7 y7 z7=>?_);refine aAQ v (h 100 Z) x7 y7 z7 (z 8 _ rfl) (λs8 x8 y8 z8=>?_);refine aAP v (h 114 Z) x8 y8 z8 (z 9 _ rfl) (λs9 x9 y9 z9=>?_);refine vB v (h 107 Z) x9 y9 z9 (z 10 _ rfl) (λrb g f b=>?_);have e:Av.drop 94=[⟨some 2,.mv (.t 100),[],none⟩]:=rfl;rw[e];simp only[↓C2,Ih,IM,reduceIte,Qr,b]
 all_goals exact Qj
def GV(a:Ak):Bs->Int
 |[]=>0
 |c::r=>if BI a (c.toNat:Int)≠0 then BI a (c.toNat:Int)else GV a r
def UX(a:Ak):∀(ls:Bs)(b:Ak),(FB a b ls).1=GV a ls
 |[],b=>rfl
 |c::r,b=>by
  unfold FB GV;split
  ·rfl
  ·exact UX a r _
def fK(a:Ak):∀(ls:Bs)(b:Ak),GV a ls=0->(FB a b ls).2=ls.foldl (λb c=>Bk b (c.toNat:Int)) b
 |[],b,_=>rfl
 |c::r,b,h=>by
  unfold GV at h;unfold FB;split at h
  ·omega
  ·simp_all [fK]
def SP(a:Ak):∀(ls:Bs),GV a ls=0->∀c∈ls,BI a (c.toNat:Int)=0
 |[],_,c,hc=>by cases hc
 |x::r,h,c,hc=>by
  unfold GV at h;split at h
  ·omega
  ·rename_i p;rcases Q0.1 hc with rfl|hc
   ·omega
   ·exact SP a r h c hc
def aD5{a:Ak}(u:1<=a.op)(q:a.op<=18):NJ ((B8 a.op).foldl (λb c=>Bk b (c.toNat:Int)) (Et a))=UZ a:=by
 have z:a.op=1∨a.op=2∨a.op=3∨a.op=4∨a.op=5∨a.op=6∨a.op=7∨a.op=8∨a.op=9∨a.op=10∨a.op=11∨a.op=12∨a.op=13∨a.op=14∨a.op=15∨a.op=16∨a.op=17∨a.op=18:=O
 rcases z with e|e|e|e|e|e|e|e|e|e|e|e|e|e|e|e|e|e
 all_goals
  unfold UZ;rw[e];simp[B8,Fr,Bk,NJ,Et,Ck,ZR,Bool.and_comm,Bool.and_left_comm]
def aCV{op:Int}(r:0<=op):DK op=[]↔¬(1<=op∧op<=18):=by
 by_cases h:op<=18
 ·have b:op=0∨op=1∨op=2∨op=3∨op=4∨op=5∨op=6∨op=7∨op=8∨op=9∨op=10∨op=11∨op=12∨op=13∨op=14∨op=15∨op=16∨op=17∨op=18:=by omega
  rcases b with rfl|rfl|rfl|rfl|rfl|rfl|rfl|rfl|rfl|rfl|rfl|rfl|rfl|rfl|rfl|rfl|rfl|rfl|rfl<;>simp[DK,Fr]
 ·have u:Fr.length=19:=rfl;have:Fr[op.toNat]?=none:=List.getElem?_eq_none O;simp[DK,Zl,this];omega
def aQz{S:Ic}{a:Ak}(q:ID a)(e:S 161=some (Af aKD)){ls:Bs}(qa:ls.length<=20){r:Int}{Q:Ex->St->Prop}
  (ma:∀z,r≠0->z.s 2= .int .i64 r->Q .ret z) (w:∀z,r=0->z.s 1= .ptr [0] 0->Ah z.m [0] 0 11=some (It a)->Q (.exit 0) z):
  ∀(f p:Nat) z g,ls.length=p+f->GV a (ls.drop p)=r->z.s 1= .ptr [0] 0->z.s 3= .str ls->z.s 4= .int .i64 (p:Int)->Ah z.m [0] 0 11=some (It a)->A2 S [] VY Q z g:=by
 intro f;induction f with
 |zero=>
  intro p z g hf y u o n hm;refine Ae VY.eq_1 ?_;have v:¬((p:Int)<(ls.length:Int)):=O
  simp only[↓C2,Ih,Ii,simprocAttr,o,n,v];rw[Zz O]at y;exact w _ y.symm u hm
 |succ f ih=>
  intro p z g hf y u o n hm;refine Ae VY.eq_1 ?_;have v:((p:Int)<(ls.length:Int)):=O
  have la:(0:Int)<=(p:Int):=O
  have k:p<ls.length:=O
  have l:IntKind.i64.wrap ((p:Int)+1)=((p+1:Nat):Int):=Iz O O;have d:ls[p]?=some ls[p]:=Qs k;have b:aKD [.agg (It a),.int .u8 (ls[p].toNat:Int)]=some (.int .i64 (BI a (ls[p].toNat:Int))):=aKC q;have j:ls.drop p=ls[p]::ls.drop (p+1):=Zh k;rw[j]at y;unfold GV at y;generalize ls[p]=c at d b y;obtain⟨i,t,fa⟩:=z;simp only at u o n hm;by_cases x:BI a (c.toNat:Int)=0
  ·rw[if_neg (λh=>h x)]at y;rw[x]at b;simp only[↓C2,Ij,simprocAttr,u,o,n,hm,v,la,Qv,d,Ab e,b,Bp,Bq];refine AF.intro (Ce ?_) ?_
   ·grind [Ec,BP]
   simp only[↓C2,Ih,Ii,simprocAttr,n,l];exact ih (p+1) _ _ O y u o rfl hm
  ·rw[if_pos x]at y;simp only[↓C2,Ij,simprocAttr,u,o,n,hm,v,la,Qv,d,Ab e,b,Bp,Bq];refine AF.intro (Ce ?_) ?_
   ·grind [Ec,BP]
   simp only[↓C2,Ih,Ii,simprocAttr,x];exact ma _ (by rw[←y];exact x) (by rw[←y];rfl)
def aZS:Kq F68 71:=by
 obtain⟨S,hS,w⟩:=A7 (Aa aBK (Aa aQo (Aa aVi (Aa aVh Ad))));have g:=w 160 _ rfl;have e:=w 161 _ rfl;have i:=w 162 _ rfl;have j:=w 163 _ rfl;clear w;refine Bo hS (Ai func71:Fn Qw 71 39 aX7 [.t 2]) (λ_=>U) (λa x=>?_);have hu:=oW x.op0 x.op;have ka:∀m:Ig,m.put [0] 0 (It a) [0] 0=some (.int .u8 a.op):=λm=>by
  rw[Ag,if_pos ⟨rfl,QZ _,XX⟩];rfl
 have s:=aCV x.op0;obtain⟨n,f2,f3⟩:=PZ a.op;unfold Cc aX7 IB;rw[UX];by_cases g1:a.op<1
 ·have hw:DK a.op=[]:=s.2 O;simp only[↓C2,Ij,simprocAttr,ka,g1,hw,AA,ne_eq,Qu,and_self]
  all_goals exact Qj
 ·by_cases g2:18<a.op
  ·have hw:DK a.op=[]:=s.2 O;simp only[↓C2,Ij,simprocAttr,ka,g1,g2,hw,AA,ne_eq,Qu,and_self]
   all_goals exact Qj
  ·have hw:DK a.op≠[]:=λh=>s.1 h O
   have o:(DK a.op=[])=False:=eq_false hw;have f:=tJ x.op0 (by omega:a.op<19);simp only[↓C2,Ij,simprocAttr,hu,ka,g1,g2,Ab g,f,AA,ne_eq,Qu];generalize y:GV a (B8 a.op)=r;refine aQz (r:=r) x e f2 (λz u q=>?_) (λz u v hm=>?_) (B8 a.op).length 0 _ _ O y rfl rfl rfl (AX (AQ a))
   ·simp only[↓C2,Ij,reduceIte,u,q];rw[if_neg hw]
   ·subst u;have l:=SP a _ y;have p:(FB a (Et a) (B8 a.op)).2=(B8 a.op).foldl (λb c=>Bk b (c.toNat:Int)) (Et a):=fK a _ _ y;have d:aTl [.agg (It a)]=some (.bool (UZ a)):=aKB x O O;have k:aTk [.agg (It a)]=some (.str (Fq a)):=aKA x O λc hc=>dS (l c hc)
    rw[p,aD5 O O];cases hbr:UZ a with
    |false=>
     rw[hbr]at d;simp only[↓C2,Ij,simprocAttr,Bp,Bq,v,hm,Ab i,d];rw[if_neg hw]
    |true=>
     rw[hbr]at d;by_cases w:400<(Fq a).length
     ·have fa:((400:Int)<((Fq a).length:Int)):=by omega
      simp only[↓C2,Ij,simprocAttr,Bp,Bq,v,hm,Ab i,d,Ab j,k,w,fa];rw[if_neg hw]
     ·have fa:¬((400:Int)<((Fq a).length:Int)):=by omega
      simp only[↓C2,Ij,simprocAttr,Bp,Bq,v,hm,Ab i,d,Ab j,k,w,fa];rw[if_neg hw]
def aOI:=y0 f156 [] []
def aOH:=y0 f157 [] []
def aX9:=y0 f69 [(4,[(6,0),(6,2)])] []
def aX8:=y0 f70 [] []
def aYD:=y0 f25 [] []
def aX6:=y0 f72 [] []
def aYC:=y0 f26 [(16,[(5,0),(5,2)])] []
def aYE:=y0 f23 [] []
structure Vw where
 se:Bool
 te:Int
 key:Bs
 nlm:Bool
 ms:List Mt
 nlt:Bool
 ks:List Tk
def Iq(v:Vw):List D:=[.bool v.se,.int .i64 v.te,.str v.key,.slice v.nlm [] (Ar v.ms),.slice v.nlt [] (Ay v.ks)]
def IJ(v:Vw):D:= .agg (Iq v)
theorem Mc{a b:Vw}(h:IJ a=IJ b):a=b:=by
 cases a;cases b;simp only[IJ,Iq,D.agg.injEq,Qo,D.int.injEq,D.str.injEq,D.bool.injEq,D.slice.injEq,true_and,and_true]at h;obtain⟨u,q,o,⟨n,m⟩,x,w⟩:=h;have e5:=LH m;have e7:=Hg w;subst u q o n x e5 e7;rfl
def Cl(v:Vw):(Iq v).map D.un1=Iq v:=rfl
def Cf(v:Vw):(Iq v).all D.calm1=true:=rfl
def AL(v:Vw):D.cells (.agg (Iq v))=Iq v:=rfl
theorem A9(v:Vw):(Iq v).length=5:=rfl
structure IG (v:Vw):Prop where
 ml:v.ms.length<=1000
 mp:∀m∈v.ms,m.1.length<=1000
 kl:v.ks.length<=1000
 kp:∀k∈v.ks,iY k∧EB k.2.2.2
theorem Ln{l:List Tk}{j:Nat}(h:j<l.length):AS l j∈l:=by simp[AS,Qs h]
def IG.set{v:Vw}(h:IG v):Fm (Ay v.ks):=EV (by have:=h.kl;omega)
def Fj(e:List Tk)(n p:Bs)(c:Int):Bool:=A0 e n&&N9 (CP (AS e (I3 e n)).2.2.2 p).toNat c.toNat
def D7(e:List Tk)(n p:Bs)(c:Int):Bool:=decide (0<=Bv e n)&&H5 (AS e (Bv e n).toNat).2.2.2 p c
open Classical in
def aFb{nl:Bool}{l:List Tk}{s:Bs}(w:l.length<=1000000)(j:∀k∈l,iY k):F35 [.agg [.slice nl [] (Ay l)],.str s]=some (.tup (if A0 l s=true then [I2 (AS l (I3 l s)),.bool true]else [.agg [.str [],.str [],.slice true [] []],.bool false])):=by
 have h:Fm (Ay l)∧∀k∈Cz (Ay l),iY k:=⟨EV w,Yf⟩;show(if _ then _ else _)=_;rw[if_pos h,By]
open Classical in
def aTb{nl:Bool}{l:List Tk}{s p:Bs}(w:l.length<=1000000)(j:∀k∈l,k.2.2.2.length<=1000000):F36 [.agg [.slice nl [] (Ay l)],.str s,.str p]=some (.int .u8 (if A0 l s=true then CP (AS l (I3 l s)).2.2.2 p else 0)):=by
 have h:Fm (Ay l)∧∀k∈Cz (Ay l),k.2.2.2.length<=1000000:=⟨EV w,Yf⟩;show(if _ then _ else _)=_;rw[if_pos h,By]
def aHZ{l:List Rl}(h:Eh l)(s:Bs):0<=CP l s∧CP l s<256:=by
 unfold CP;split
 ·omega
 ·generalize (FW s (l.map (·.1))).toNat=j;by_cases y:j<l.length
  ·have:BL l j=l[j]:=by simp[BL,Qs y]
   rw[this];exact h _ (QQ y)
  ·grind [BL]
def So(p:Vw×Bs×Bs×Int):List D:=[IJ p.1,.str p.2.1,.str p.2.2.1,.int .u8 p.2.2.2]
def dI(x y:Vw×Bs×Bs×Int)(e:So x=So y):x=y:=by
 grind [So,Mc]
def aKG:List D->Option D:=FX So (λp=>IG p.1∧0<=p.2.2.2∧p.2.2.2<256) (λp=> .bool (Fj p.1.ks p.2.1 p.2.2.1 p.2.2.2))
def uB{v:Vw}{n p:Bs}{c:Int}(h:IG v)(u:0<=c∧c<256):aKG [IJ v,.str n,.str p,.int .u8 c]=some (.bool (Fj v.ks n p c)):=Bl (mk:=So) (a:=(v,n,p,c)) dI ⟨h,u⟩
def aVm:Kq aKG 157:=by
 obtain⟨S,hS,w⟩:=A7 (Aa aUs (Aa aZ0 Ad));have d:=w 35 _ rfl;have e:=w 36 _ rfl;clear w;refine Bo hS (Ai func157:Fn Qw 157 29 aOH [.t 8]) (λ_=>by simp[So]) (λp g=>?_);obtain⟨v,n,q,c⟩:=p;obtain⟨r,x⟩:=g;simp only at r x;have f:=r.kl;have la:=aFb (nl:=v.nlt) (l:=v.ks) (s:=n) O (λk j=>(r.kp k j).1);have b:=aTb (nl:=v.nlt) (l:=v.ks) (s:=n) (p:=q) O (λk j=>(r.kp k j).2.1);unfold aOH So IJ Iq Fj;simp only;cases hf:A0 v.ks n with
 |false=>
  rw[hf]at la;simp only[Zk,if_false]at la;simp only[↓C2,Is,simprocAttr,Ab d,la,QC,Ag,Ao,Ap,Qy,Qx,Qo,Qp]
  all_goals exact Qj
 |true=>
  rw[hf]at la b;simp only[if_true]at la b;have i:I3 v.ks n<v.ks.length:=by
   grind [A0]
  have ra:=(r.kp _ (Ln i)).2.2.2;generalize AS v.ks (I3 v.ks n)=k at la b ra;have h:=aHZ ra q;generalize CP k.2.2.2 q=o at b h;have z:=S5 (a:=o.toNat) (c:=c.toNat) O O;rw[QY x.1,QY h.1]at z;have u:(((Nat.land c.toNat (255-o.toNat):Nat):Int)=0)=(N9 o.toNat c.toNat=true):=by
   simp_all [N9]
  simp only[I2]at la;simp only[↓C2,Is,simprocAttr,Ab d,la,Ab e,b,bU,z,u,mE,Ag,Ao,Ap,Qy,Qx,Qo,and_false,Qp]
  all_goals exact Qj
def F72:List D->Option D:=FX So (λp=>IG p.1∧0<=p.2.2.2∧p.2.2.2<256∧p.2.2.1.length<=1000000) (λp=> .bool (D7 p.1.ks p.2.1 p.2.2.1 p.2.2.2))
def aEZ{v:Vw}{n p:Bs}{c:Int}(h:IG v)(u:0<=c∧c<256)(q:p.length<=1000000):F72 [IJ v,.str n,.str p,.int .u8 c]=some (.bool (D7 v.ks n p c)):=Bl (mk:=So) (a:=(v,n,p,c)) dI ⟨h,u.1,u.2,q⟩
def aZR:Kq F72 72:=by
 obtain⟨S,hS,w⟩:=A7 (Aa qF (Aa aVg Ad));have b:=w 117 _ rfl;have e:=w 164 _ rfl;clear w;refine Bo hS (Ai func72:Fn Qw 72 27 aX6 [.t 8]) (λ_=>by simp[So]) (λp g=>?_);obtain⟨v,n,q,c⟩:=p;obtain⟨hv,o,u,hq⟩:=g;simp only at hv o u hq;have sa:=hv.kl;have y:=MC (nl:=v.nlt) (t:=[]) (l:=v.ks) (p:=n) O;have z:=Oe v.ks n;unfold aX6 So IJ Iq D7;simp only;generalize Bv v.ks n=i at y z;by_cases hi:0<=i
 ·have d:i.toNat<v.ks.length:=by omega
  have r:=DY (l:=v.ks) (j:=i.toNat) d;have a:=(hv.kp _ (Ln d)).2;generalize AS v.ks i.toNat=k at r a;obtain⟨n2,h,x,m⟩:=k;simp only at a;replace r:(Ay v.ks)[i.toNat]?=some (.agg [.str n2,.str h,.slice x [] (Aj m)]):=r;have f:=uA (nl:=x) (t:=[]) (l:=m) (s:=q) (k:=c) a.1 a.2.2 a.2.1 hq o u;simp only[↓C2,Is,simprocAttr,Ab b,y,Ab e,f,hi,r,Ag,QR,QW,QV]
  all_goals exact Qj
 ·simp only[↓C2,Is,simprocAttr,Ab b,y,hi,QC,QC,Ag]
  all_goals exact Qj
def jB:Bs:=[115,121,115]
def atA(a:Ak):Bs:=if a.op<=8 then jB else a.pa
def Pq(v:Vw)(a:Ak):Bool:=Fj v.ks a.tk (atA a) (Es a.op)&&(decide (a.op≠18)||Fj v.ks a.tk a.ot 2)
def HX(p:Vw×Ak):List D:=[IJ p.1,IB p.2]
def N1(x y:Vw×Ak)(e:HX x=HX y):x=y:=by
 grind [HX,Mc,DF]
def fO(op:Int):0<=Es op∧Es op<256:=by
 grind [Es]
def aFp:List D->Option D
 |[.int .u8 op]=>some (.bool (decide (op<=8)))
 |_=>none
def aLq:Kq aFp 156:=by
 refine AD (S:=λ_=>none) AI (Ai func156:Fn Qw 156 5 aOI [.t 2]) (λds r h=>?_) (λds r h=>?_)
 ·unfold aFp at h;split at h
  ·simp
  ·cases h
 ·unfold aFp at h;split at h
  ·simp only[QP]at h;subst h;unfold aOI;simp only[↓C2,Ij,simprocAttr]
   all_goals exact Qj
  ·cases h
def F69:List D->Option D:=FX HX (λp=>IG p.1) (λp=> .bool (Pq p.1 p.2))
def aS6{v:Vw}{a:Ak}(h:IG v):F69 [IJ v,IB a]=some (.bool (Pq v a)):=Bl (mk:=HX) (a:=(v,a)) N1 h
def aZU:Kq F69 69:=by
 obtain⟨S,s,w⟩:=A7 (Aa aLq (Aa aUL (Aa aVm Ad)));have g:=w 156 _ rfl;have j:=w 27 _ rfl;have h:=w 157 _ rfl;clear w;refine Bo s (Ai func69:Fn Qw 69 32 aX9 [.t 4]) (λ_=>by simp[HX]) (λp r=>?_);obtain⟨v,a⟩:=p;simp only at r;have f:aFp [.int .u8 a.op]=some (.bool (decide (a.op<=8))):=rfl;have n:F27 [.int .u8 a.op]=some (.int .u8 (Es a.op)):=rfl;have i:∀q,aKG [.agg (Iq v),.str a.tk,.str q,.int .u8 (Es a.op)]=some (.bool (Fj v.ks a.tk q (Es a.op))):=λq=>uB r (fO _)
 have e:aKG [.agg (Iq v),.str a.tk,.str a.ot,.int .u8 2]=some (.bool (Fj v.ks a.tk a.ot 2)):=uB r O;have l:∀m:Ig,Ah (m.put [1] 0 (It a)) [0] 0 5=Ah m [0] 0 5:=λm=>AT Z
 have o:Ah (Ig.put (λ_ _=>none) [0] 0 (Iq v)) [0] 0 5=some (Iq v):=AX (A9 v);have z:∀m:Ig,∀k d,(It a)[k]?=some d->(m.put [1] 0 (It a)) [1] k=some d:=λm k d u=>by
  have hk:=(Q2.1 u).1;rw[Ag,if_pos ⟨rfl,Qz _,O⟩];exact u
 have m0:=λm=>z m 0 _ rfl
 have m1:=λm=>z m 1 _ rfl
 have m2:=λm=>z m 2 _ rfl
 have m3:=λm=>z m 3 _ rfl
 unfold aX9 HX IJ IB Pq atA;simp only;by_cases y:a.op<=8
 ·have la:¬a.op=18:=by omega
  rw[decide_eq_true y]at f;have x:=i jB;simp only[y,if_true];generalize Fj v.ks a.tk jB (Es a.op)=b at x;unfold jB at x;cases b<;>simp only[↓C2,Ij,simprocAttr,m0,m1,m2,l,o,Cl,Cf,AL,AA,Qu,ne_eq,la,Ab g,f,Ab j,n,Ab h,x]<;>refine Al ?_<;>simp only[↓C2,Ij,reduceIte,Qn,QF,la]
  all_goals exact Qj
 ·rw[decide_eq_false y]at f;have x:=i a.pa;simp only[y,if_false];generalize Fj v.ks a.tk a.pa (Es a.op)=b at x;generalize Fj v.ks a.tk a.ot 2=b2 at e;by_cases la:a.op=18
  ·have c:(a.op=18)=True:=eq_true la;clear la;cases b<;>cases b2<;>simp only[↓C2,Ij,simprocAttr,m0,m1,m2,m3,l,o,Cl,Cf,AL,AA,Qu,ne_eq,Ab g,f,Ab j,n,Ab h,x,e,c]<;>refine Al ?_<;>simp only[↓C2,Ij,reduceIte,Qn,QN,QU,c]
   all_goals exact Qj
  ·cases b<;>simp only[↓C2,Ij,simprocAttr,m0,m1,m2,l,o,Cl,Cf,AL,AA,Qu,ne_eq,la,Ab g,f,Ab j,n,Ab h,x]<;>refine Al ?_<;>simp only[↓C2,Ij,reduceIte,Qn,QF,la]
   all_goals exact Qj
abbrev Op1:=Int×Bs×Bs
def opD(x:Op1):D:= .agg [.int .u8 x.1,.str x.2.1,.str x.2.2]
def BH(l:List Op1):List D:=l.map opD
def aGC{x y:Op1}(h:opD x=opD y):x=y:=by
 grind [opD]
def aBB{a b:List Op1}(h:BH a=BH b):a=b:=(List.map_inj_right (λ_ _ e=>aGC e)).1 h
def aBA(l:List Op1):(BH l).length=l.length:=Zj ..
structure Oc where
 need:Bs
 li:Bool
 rep:Bs
 nl:Bool
 ops:List Op1
 vw:Vw
structure Wb where
 v:Vw
 a:Ak
 k:Kn
def ocC(o:Oc)(t:Id):List D:=[.str o.need,.bool o.li,.str o.rep,.slice o.nl t (BH o.ops)]++Iq o.vw
def I1(w:Wb)(o:Oc)(t:Id):List D:=Iq w.v++(It w.a++(IQ w.k++ocC o t))
theorem Dy(w:Wb)(o:Oc)(t:Id):(I1 w o t).length=30:=rfl
def LI{α:Type}{f:α->Bs}{a b:List α}(h:a.map (λx=>D.str (f x))=b.map λx=>D.str (f x)):a.map f=b.map f:=by
 have:=congrArg (ZM λd=>match d with|D.str s=>s|_=>[]) h;simpa[Zn,Function.comp_def]using this
def VI{α:Type}{f:α->Bool}{a b:List α}(h:a.map (λx=>D.bool (f x))=b.map λx=>D.bool (f x)):a.map f=b.map f:=by
 have:=congrArg (ZM λd=>match d with|D.bool s=>s|_=>false) h;simpa[Zn,Function.comp_def]using this
def aGL{a b:List (Bs×Bool×List Bs)}(h:a.map lsD=b.map lsD):a.map (·.2)=b.map (·.2):=by
 have:=congrArg (ZM λd=>match d with|D.slice nl _ xs=>(nl,xs.map λd=>match d with|D.str s=>s|_=>[])|_=>(false,[])) h;simpa[Zn,Function.comp_def,lsD,An]using this
def aPB{α β γ:Type}:∀{a b:List (α×β×γ)},a.map (·.1)=b.map (·.1)->a.map (·.2.1)=b.map (·.2.1)->a.map (·.2.2)=b.map (·.2.2)->a=b
 |[],[],_,_,_=>rfl
 |[],_::_,h,_,_=>Xe
 |_::_,[],h,_,_=>Xe
 |x::a,y::b,h1,h2,h3=>by
  simp only[QO,Qo]at h1 h2 h3;rw[aPB h1.2 h2.2 h3.2,Q3 h1.1 (Q3 h2.1 h3.1)]
def aHu{a b:Kn}(h:IQ a=IQ b):a=b:=by
 cases a;cases b;simp only[IQ,Qo,D.slice.injEq,true_and,and_true]at h;obtain⟨⟨_,u⟩,⟨_,q⟩,⟨_,o⟩,⟨_,n⟩,_,m⟩:=h;have e1:=aPB (LI u) (LI q) (VI o);have g:=aGL m;have e2:=aPB (LI n) (by have:=congrArg (ZM Prod.fst) g;simpa[Zn,Function.comp_def]using this) (by have:=congrArg (ZM Prod.snd) g;simpa[Zn,Function.comp_def]using this);rw[e1,e2]
def NL{w n:Wb}{o o':Oc}{t x:Id}(h:I1 w o t=I1 n o' x):w=n∧o=o'∧t=x:=by
 unfold I1 at h;obtain⟨u,h⟩:=Zt h rfl;obtain⟨q,h⟩:=Zt h rfl;obtain⟨y,h⟩:=Zt h rfl;have e1:=Mc (congrArg D.agg u);have e2:=DF (congrArg D.agg q);have e3:=aHu y;unfold ocC at h;obtain⟨b,m⟩:=Zt h rfl;have e5:=Mc (congrArg D.agg m);simp only[Qo,D.str.injEq,D.bool.injEq,D.slice.injEq,and_true]at b;obtain⟨z,i,s,k,f,r⟩:=b;have e6:=aBB r;cases w;cases n;cases o;cases o';simp only at e1 e2 e3 e5 z i s k e6;subst e1 e2 e3 e5 z i s k e6 f;exact⟨rfl,rfl,rfl⟩
abbrev WY:=D×Oc×Option (List Nat)
def bV(i:Id)(w:Wb)(o:Oc)(t fr:Id)(y:WY):Ir:=match y.2.2 with
 |none=>[(i,0,I1 w y.2.1 t)]
 |some l=>(i,0,I1 w y.2.1 (l++fr))::Bm 107 (l++fr) (.slice o.nl t (BH o.ops))
def WJ(m:Ig)(i:Id)(x:Wb×Oc×Id):Prop:=Ah m i 0 30=some (I1 x.1 x.2.1 x.2.2)∧Cn m 107 x.2.1.nl x.2.2 x.2.1.ops.isEmpty=true∧(x.2.1.nl=true->x.2.2=[])
open Classical in
def Un(p:Wb×Oc×Id->Prop):Option (Wb×Oc×Id):=if h:∃x,p x then some (Classical.choose h)else none
def cZ{p:Wb×Oc×Id->Prop}{x:Wb×Oc×Id}(h:p x)(m:∀y,p y->y=x):Un p=some x:=by
 have o:∃x,p x:=⟨x,h⟩;unfold Un;rw[dif_pos o,m _ (Classical.choose_spec o)]
def Um{p:Wb×Oc×Id->Prop}{x:Wb×Oc×Id}(h:Un p=some x):p x:=by
 unfold Un at h;split at h
 ·grind
 ·cases h
def wQ(F:Wb->Oc->List D->Option WY):IS where
 rd:=λds m=>match ds with
  | .ptr i 0::_=>A4 i 0 30++(match m i 24 with|some (.slice _ t _)=>[(t,0)]|_=>[])
  |_=>[]
 ex:=λds m fr=>match ds with
  | .ptr i 0::rest=>(Un (WJ m i)).bind λx=>(F x.1 x.2.1 rest).map λy=>(y.1,bV i x.1 x.2.1 x.2.2 fr y)
  |_=>none
def aEa{m:Ig}{i:Id}{w:Wb}{o:Oc}{t:Id}(h:Ah m i 0 30=some (I1 w o t)):m i 24=some (.slice o.nl t (BH o.ops)):=BU h rfl
def aPP{F:Wb->Oc->List D->Option WY}(ds:List D)(m m':Ig)(fr:Id)(h:∀l∈(wQ F).rd ds m,m l.1 l.2=m' l.1 l.2):(wQ F).ex ds m fr=(wQ F).ex ds m' fr:=by
 simp only[wQ]at h ⊢;split
 ·rename_i i v;have y:Ah m i 0 30=Ah m' i 0 30:=B2 (λl z=>h l (ZF _ z));have g:WJ m i=WJ m' i:=by
   funext x;obtain⟨w,o,t⟩:=x;apply propext;unfold WJ;rw[y];have e:Ah m' i 0 30=some (I1 w o t)->Cn m 107 o.nl t o.ops.isEmpty=Cn m' 107 o.nl t o.ops.isEmpty:=λk=>by
    refine E0 (h (t,0) (ZE _ ?_));have:=aEa (y.trans k);rw[this];simp
   constructor
   ·rintro⟨a,b,c⟩;exact⟨a,by rw[←e a];exact b,c⟩
   ·rintro⟨a,b,c⟩;exact⟨a,by rw[e a];exact b,c⟩
  rw[g]
 ·rfl
def fZ{m:Ig}{i:Id}{x y:Wb×Oc×Id}(p:WJ m i x)(d:WJ m i y):y=x:=by
 have:=d.1.symm.trans p.1;simp only[QP]at this;obtain⟨a,b,c⟩:=NL this;exact Q3 a (Q3 b c)
structure Wt (i fr:Id) (m0:Ig) (nl0:Bool) (t0:Id) (m:Ig) (w:Wb) (o:Oc) (t:Id):Prop where
 at_:WJ m i (w,o,t)
 loc:∀q,t≠q::fr
 sub0:nl0=false->¬fr<:+t0
 ch:(t=t0∧o.nl=nl0∧∀j x d,(j≠i∨30<=x)->m0 j x=some d->m j x=some d)∨
  ((∃l k,t=l++k::fr)∧o.nl=false∧(nl0=false->m t0 0=some (.tok 0))∧∀j x d,(j≠i∨30<=x)->(nl0=true∨j≠t0∨x≠0)->m0 j x=some d->m j x=some d)
def WE(i fr:Id)(m0:Ig)(nl0:Bool)(t0:Id)(w:Wb)(y:WY)(d:D)(m':Ig):Prop:=d=y.1∧match y.2.2 with
 |none=>Ah m' i 0 30=some (I1 w y.2.1 t0)∧∀j x d,(j≠i∨30<=x)->m0 j x=some d->m' j x=some d
 |some l=>Ah m' i 0 30=some (I1 w y.2.1 (l++fr))∧m' (l++fr) 0=some (.tok 108)∧(nl0=false->m' t0 0=some (.tok 0))∧∀j x d,(j≠i∨30<=x)->(nl0=true∨j≠t0∨x≠0)->m0 j x=some d->m' j x=some d
section
variable{i fr t0 t:Id}{m0 m m':Ig}{nl0:Bool}{w:Wb}{o o':Oc}
def PT(h:Ah m i 0 30=some (I1 w o t)):m i 0=some (.bool w.v.se):=BU h rfl
def iX(h:WJ m i (w,o,t))(f:o.nl=false):i≠t:=by
 rintro rfl;have u:=PT h.1;have q:=FG h.2.1 f;rw[u]at q;cases q
def oQ(h:Ah m i 0 30=some (I1 w o t))(q:m t0 0=some (.tok 0)):t0≠i:=by
 rintro rfl;rw[PT h]at q;cases q
def Wt.put(h:Wt i fr m0 nl0 t0 m w o t)(n:∀j x,fr<:+j->m0 j x=none:=by assumption)(f:∀k,(i=k::fr)=False:=by assumption){q p:Nat}{ys:List D}:Wt i fr m0 nl0 t0 (m.put (q::fr) p ys) w o t:=by
 obtain⟨⟨r,a2,y⟩,z,s,v⟩:=h;have hi:i≠q::fr:=λe=>(f q).mp e
 have l:∀j x d,m0 j x=some d->j≠q::fr:=λj x d c e=>by
  rw[e,n (q::fr) _ ⟨[q],rfl⟩]at c;cases c
 refine⟨⟨by rw[PX hi];exact r,?_,y⟩,z,s,?_⟩
 ·grind [E0,aA]
 ·grind [aA]
def Wt.cell(h:Wt i fr m0 nl0 t0 m w o t)(ga:Ah m' i 0 30=some (I1 w o' t))(u:o'.nl=o.nl)(q:o'.ops=o.ops)(f:∀j x,(j≠i∨30<=x)->m' j x=m j x):Wt i fr m0 nl0 t0 m' w o' t:=by
 obtain⟨a,z,s,k⟩:=h;refine⟨⟨ga,?_,by show o'.nl=true->t=[];rw[u];exact a.2.2⟩,z,s,?_⟩
 ·show Cn m' 107 o'.nl t o'.ops.isEmpty=true;rw[u,q];have g:=a.2.1;cases hn:o.nl with
  |true=>simp only[hn,Cn,if_true]at g ⊢;exact g
  |false=>
   have n:=iX a hn;simp only[hn]at g;rw[←g];exact E0 (f t 0 (.inl (λe=>n e.symm)))
 ·rcases k with ⟨c1,l,c2⟩|⟨c1,c2,p,b⟩
  ·simp_all
  ·exact .inr ⟨c1,by rw[u];exact c2,λr=>by rw[f t0 0 (.inl (oQ a.1 (p r)))];exact p r,λj x d y la c=>by rw[f j x y];exact b j x d y la c⟩
theorem pU{cs:List D}(w:cs.length=30):∀j x,(j≠i∨30<=x)->(m.put i 0 cs) j x=m j x:=λj x h=>by
 rcases h with h|h
 ·rw[aA h]
 ·grind [aC,aA]
def HA{nl:Bool}{xs:List D}{e:Nat}{f:Id}{j:Id}{x:Nat}:Ir.app m (Bm e f (.slice nl t xs)) j x=if j=f∧x=0 then some (.tok (e+1))else if nl=false∧j=t∧x=0 then some (.tok 0)else m j x:=Du
def NZ(t fr:Id):Option (List Nat)->Id
 |none=>t
 |some l=>l++fr
def Wt.call(h:Wt i fr m0 nl0 t0 m w o t)(ea:∀j x,fr<:+j->m0 j x=none)(sa:∀k l,(i=l++k::fr)=False){k:Nat}{d:D}{ol:Option (List Nat)}
  (qa:ol=none->o'.nl=o.nl∧o'.ops=o.ops) (ua:∀l,ol=some l->o'.nl=false∧l≠[]):
  Wt i fr m0 nl0 t0 (Ir.app m (bV i w o t (k::fr) (d,o',ol))) w o' (NZ t (k::fr) ol)∧∀q x,Ir.app m (bV i w o t (k::fr) (d,o',ol)) (q::fr) x=m (q::fr) x:=by
 cases ol with
 |none=>
  obtain⟨u,h2⟩:=qa rfl;refine⟨h.cell (II (Dy _ _ _)) u h2 (pU (Dy _ _ _)),λq x=>?_⟩;have e0:q::fr≠i:=λe=>(sa q []).mp e.symm
  show(m.put i 0 _) (q::fr) x=_;rw[aA e0]
 |some l=>
  obtain⟨hn,ra⟩:=ua l rfl;obtain⟨a,z,s,v⟩:=h;have p:i≠l++k::fr:=λe=>(sa k l).mp e
  have ia:∀j x,Ir.app m (bV i w o t (k::fr) (d,o',some l)) j x=if j=l++k::fr∧x=0 then some (.tok 108)else if o.nl=false∧j=t∧x=0 then some (.tok 0)else(m.put i 0 (I1 w o' (l++k::fr))) j x:=λj x=>HA (m:=m.put i 0 (I1 w o' (l++k::fr)))
  have n:∀q,q::fr≠l++k::fr:=λq e=>by
   have:=congrArg Z_ e;simp only[QJ,QA]at this;exact ra (List.length_eq_zero_iff.1 O)
  have b:fr<:+l++k::fr:=⟨l++[k],U⟩;refine⟨⟨⟨?_,?_,λh=>absurd h (by rw[hn];simp)⟩,λq e=>n q e.symm,s,.inr ⟨⟨l,k,rfl⟩,hn,λr=>?_,λj x dd y la c=>?_⟩⟩,λq x=>?_⟩
  ·show Ah _ i 0 30=some (I1 w o' (l++k::fr));rw[←II (m:=m) (i:=i) (Dy w o' (l++k::fr))];refine B2 (λq hq=>?_);have oa:q.1=i:=by
    grind [A4]
   rw[ia,oa,if_neg (λe=>p e.1),if_neg (λe=>iX a e.1 e.2.1)]
  ·show Cn _ 107 o'.nl (l++k::fr) _=true;rw[hn];unfold Cn;rw[if_neg Bool.false_ne_true];simp only[ia,and_self,if_true];cases l<;>simp
  ·have ma:t0≠l++k::fr:=λe=>s r (e▸b)
   rw[ia,if_neg (λe=>ma e.1)];rcases v with ⟨c1,c0,c2⟩|⟨c1,c2,g,c4⟩
   ·simp_all
   ·split
    ·rfl
    ·rw[aA (oQ a.1 (g r))];exact g r
  ·have ma:j≠l++k::fr:=λe=>by rw[e,ea _ _ b]at c;cases c
   rw[ia,if_neg (λe=>ma e.1)];have f:m j x=some dd:=by
    grind
   rw[if_neg]
   ·grind [pU,Dy]
   ·rintro⟨e1,e2,e3⟩;rcases v with ⟨c1,c0,c2⟩|⟨⟨l',k',c1⟩,c2,g,c4⟩
    ·simp_all
    ·rw[e2,c1,ea _ _ ⟨l'++[k'],U⟩]at c;cases c
  ·have e0:q::fr≠i:=λe=>(sa q []).mp e.symm
   rw[ia,if_neg (λe=>n q e.1),if_neg (λe=>z q e.2.1.symm),aA e0]
def Wt.start(h:WJ m i (w,o,t))(n:∀j x,fr<:+j->m j x=none):Wt i fr m o.nl t m w o t:=by
 have s:o.nl=false->¬fr<:+t:=λf s=>by
  have:=FG h.2.1 f;rw[n _ _ s]at this;cases this
 refine⟨h,λq e=>?_,s,.inl ⟨rfl,rfl,λ_ _ _ _ h=>h⟩⟩;cases f:o.nl with
 |true=>have:=h.2.2 f;simp only at this;rw[this]at e;cases e
 |false=>exact s f (by rw[e];exact⟨[q],rfl⟩)
def Wt.end0(h:Wt i fr m0 nl0 t0 m w o t0)(v:nl0=true->t0=[]){d:D}:WE i fr m0 nl0 t0 w (d,o,none) d m:=by
 refine⟨rfl,h.at_.1,?_⟩;rcases h.ch with ⟨j,n,c2⟩|⟨⟨l,k,j⟩,c2,p,u⟩
 ·exact c2
 ·exfalso;cases hn:nl0 with
  |true=>rw[v hn]at j;simp at j
  |false=>exact h.sub0 hn (j▸⟨l++[k],U⟩)
def Wt.endl{l:List Nat}(h:Wt i fr m0 nl0 t0 m w o (l++fr))(z:l≠[]){d:D}:WE i fr m0 nl0 t0 w (d,o,some l) d m:=by
 refine⟨rfl,h.at_.1,?_⟩;rcases h.ch with ⟨j,n,c2⟩|⟨⟨u,k,j⟩,c2,p,t⟩
 ·exfalso;cases hn:nl0 with
  |true=>
   have:=h.at_.2.2 (n.trans hn);simp only[ZA]at this;exact z this.1
  |false=>exact h.sub0 hn (j▸⟨l,rfl⟩)
 ·exact⟨FG h.at_.2.1 c2,p,t⟩
end
def pQ(S:Ic)(p:DC)(rs:List RV)(N:Nat)(w:Wb)(o:Oc)(v:List D)(y:WY):Prop:=v.length+1<=N∧(y.2.2=none->y.2.1.nl=o.nl∧y.2.1.ops=o.ops)∧(∀l,y.2.2=some l->y.2.1.nl=false∧l≠[])∧
 ∀(i:Id)(m:Ig)(fr t:Id),WJ m i (w,o,t)->(∀j x,fr<:+j->m j x=none)->(∀k l,(i=l++k::fr)=False)->(∀k,(i=k::fr)=False)->
  p.wp S fr (Ew rs (WE i fr m o.nl t w y)) ⟨BR (.ptr i 0::v),m,0⟩
open Classical in
def RW(S:Ic)(p:DC)(rs:List RV)(N:Nat):Wb->Oc->List D->Option WY:=λw o v=>if h:∃y,pQ S p rs N w o v y then some (Classical.choose h)else none
def FL{S:Ic}{p:DC}{rs:List RV}{N:Nat}{w:Wb}{o:Oc}{v:List D}{y:WY}(h:RW S p rs N w o v=some y):pQ S p rs N w o v y:=by
 unfold RW at h;split at h
 ·grind
 ·cases h
def aUa(w:Wb)(o:Oc)(r:o.nl=true->o.ops=[]):∃(m:Ig)(t:Id),WJ m [0] (w,o,t)∧(∀j x,[1]<:+j->m j x=none)∧¬[1]<:+t:=by
 have n1:¬[1]<:+[0]:=Z
 have n2:¬[1]<:+[2]:=Z
 cases hn:o.nl with
 |true=>
  refine⟨Ig.put (λ_ _=>none) [0] 0 (I1 w o []),[],⟨II (Dy _ _ _),?_,λ_=>rfl⟩,λj x y=>?_,Z⟩
  ·grind [Cn]
  ·rw[aA (λe=>n1 (by rw[←e];exact y))]
 |false=>
  refine⟨(Ig.put (λ_ _=>none) [0] 0 (I1 w o [2])).put [2] 0 [.tok 108],[2],⟨?_,?_,λh=>?_⟩,λj x y=>?_,n2⟩
  ·grind [PX,II,Dy]
  ·grind [Cn,Ig.put]
  ·simp only at h;rw[hn]at h;cases h
  ·rw[aA (λe=>n2 (by rw[←e];exact y)),aA (λe=>n1 (by rw[←e];exact y))]
def Bt{S:Ic}{g:DC}{rs:List RV}{N:Nat}{w:Wb}{o:Oc}{v:List D}{y:WY}(r:o.nl=true->o.ops=[])(h:pQ S g rs N w o v y):RW S g rs N w o v=some y:=by
 have p:∃y,pQ S g rs N w o v y:=⟨y,h⟩;unfold RW;rw[dif_pos p];obtain⟨m,t,u,q,h3⟩:=aUa w o r;have e1:∀k l,(([0]:Id)=l++k::[1])=False:=λk l=>eq_false (λe=>by
  have:=congrArg List.getLast? e;simp at this)
 have e2:∀k,(([0]:Id)=k::[1])=False:=λk=>eq_false (λe=>by simp at e)
 obtain⟨d,m',a,b⟩:=SS ((Classical.choose_spec p).2.2.2 [0] m [1] t u q e1 e2) (h.2.2.2 [0] m [1] t u q e1 e2);generalize Classical.choose p=z at *;obtain⟨j,x,f⟩:=z;obtain⟨y1,y2,y3⟩:=y;obtain⟨rfl,a⟩:=a;obtain⟨hd,b⟩:=b;simp only at hd;subst hd;cases f with
 |none=>
  cases y3 with
  |none=>
   have:=a.1.symm.trans b.1;simp only[QP]at this;rw[(NL this).2.1]
  |some l=>
   have:=a.1.symm.trans b.1;simp only[QP]at this;exact absurd ⟨l,(NL this).2.2.symm⟩ h3
 |some l=>
  cases y3 with
  |none=>
   have:=a.1.symm.trans b.1;simp only[QP]at this;exact absurd ⟨l,(NL this).2.2⟩ h3
  |some l2=>
   have:=a.1.symm.trans b.1;simp only[QP]at this;obtain⟨_,e3,e4⟩:=NL this;rw[e3,List.append_cancel_right e4]
def D9{S:Ic}{f:FuncId}{N:Nat}{dc:DC}{rs:List RV}(hf:Fn Qw f N dc rs)(hS:Ic.ok Qw S):(wQ (RW S dc rs N)).ok Qw f:=by
 refine Gy hS hf aPP (λds m fr r u z ea=>?_);simp only[wQ]at z;split at z
 ·rename_i i aa;rw[Zm]at z;obtain⟨⟨w,o,t⟩,g,z⟩:=z;rw[Zy]at z;obtain⟨y,hF,z⟩:=z;simp only[Zr]at z;obtain⟨rfl,rfl⟩:=z;have ga:=Um g;obtain⟨hN,qa,ua,n⟩:=FL hF;have ka:m i 0=some (.bool w.v.se):=PT ga.1;have sa:∀k l,(i=l++k::fr)=False:=λk l=>eq_false (λe=>by
   rw[e,ea _ _ ⟨l++[k],U⟩]at ka;cases ka)
  refine⟨hN,NK (n i m fr t ga ea sa (λk=>sa k [])) (λe la he=>?_)⟩;obtain⟨ma,d,da,rfl,hE⟩:=he;refine⟨ma,_,da,rfl,λj x dd p=>?_⟩;obtain⟨y1,y2,y3⟩:=y;cases y3 with
  |none=>
   obtain⟨g1,g2⟩:=hE;have b:(m.put i 0 (I1 w y2 t)) j x=some dd:=p;by_cases s:j≠i∨30<=x
   ·grind [pU,Dy]
   ·have eb:j=i:=Classical.byContradiction (λh=>s (.inl h));have a:x<30:=Zx (λh=>s (.inr h));subst eb;have c:=aF (m:=m) (i:=j) (o:=0) (j:=x) (ds:=I1 w y2 t) (by rw[Dy];exact a);rw[Qu]at c;rw[c]at b;exact BU g1 b
  |some l=>
   obtain⟨g1,g2,g3,g4⟩:=hE;obtain⟨hn,ra⟩:=ua l rfl;have b:Ir.app (m.put i 0 (I1 w y2 (l++fr))) (Bm 107 (l++fr) (.slice o.nl t (BH o.ops))) j x=some dd:=p;rw[HA]at b;split at b
   ·simp_all
   ·split at b
    ·simp_all
    ·rename_i e1 e2;by_cases s:j≠i∨30<=x
     ·rw[pU (Dy _ _ _) j x s]at b;refine g4 j x dd s ?_ b;cases ho:o.nl with
      |true=>exact .inl rfl
      |false=>
       by_cases q:j=t
       ·simp_all
       ·exact .inr (.inl q)
     ·have eb:j=i:=Classical.byContradiction (λh=>s (.inl h));have a:x<30:=Zx (λh=>s (.inr h));subst eb;have c:=aF (m:=m) (i:=j) (o:=0) (j:=x) (ds:=I1 w y2 (l++fr)) (by rw[Dy];exact a);rw[Qu]at c;rw[c]at b;exact BU g1 b
 ·cases z
def rB{F:Wb->Oc->List D->Option WY}{w:Wb}{o:Oc}{t i fr:Id}{m:Ig}{v:List D}{y:WY}{K:D×Ir->Prop}{g}(q:WJ m i (w,o,t))(r:F w o v=some y)(h:K (y.1,bV i w o t fr y)):IE ((wQ F).ex (.ptr i 0::v) m fr) K g:=by
 refine aI ?_ h;simp only[wQ,cZ q (λz p=>fZ q p),Qy,r,ZB]
def aDz:=y0 f140 [] []
def aL4:Fn Qw 140 19 aDz [.cell (some 2) 4]:=Ai func140
def aNE:=y0 f244 [] []
def Wo:=y1 f245 1 [] []
def aND:=y0 f245 [] [(1,Wo)]
def aDA:=y0 f138 [(1,[(3,0),(3,13),(7,13),(13,0),(13,3),(13,7)])] []
def aDy:=y0 f141 [] []
def WF:=y1 f142 3 [(6,[(8,5)])] []
def aOW:=y0 f142 [] [(3,WF)]
abbrev y2(f:Func)(ps:List (Nat×List (Nat×Nat)))(ls:List (Nat×DC)){c:DC}(_:tQ ps ls (bAt f)=c:=by exact Eq.trans (by conv=>lhs;whnf) (by simp only[tQ,xC,List.append_eq,tR,tO,tAt,tAi,tAb,tAs,tAf,tAl,tAp,tAn,tAu,tAg,zT,Tz.k,Tz.z,Tz.n,Tz.d,tL,tP,tB,tE,tX,tS,tI,tG,tC,tM,fAt,Uq,lk,ofVal,List.getD_cons_zero,List.getD_cons_succ,List.map_cons,List.map_nil,List.length_cons,List.length_nil,List.headD_cons,List.cons_append,List.nil_append,Option.map_some,Option.map_none,Option.getD_some,Bool.false_eq_true,reduceIte,Nat.reduceAdd,Nat.reduceMul,Nat.reduceEqDiff]<;>rfl)):DC:=c
abbrev y3(f:Func)(k:Nat)(ps:List (Nat×List (Nat×Nat)))(ls:List (Nat×DC)){c:DC}(_:tQ ps ls ((dN k (bAt f)).getD .skip)=c:=by exact Eq.trans (by conv=>lhs;whnf) (by simp only[tQ,xC,List.append_eq,tR,tO,tAt,tAi,tAb,tAs,tAf,tAl,tAp,tAn,tAu,tAg,zT,Tz.k,Tz.z,Tz.n,Tz.d,tL,tP,tB,tE,tX,tS,tI,tG,tC,tM,fAt,Uq,lk,ofVal,List.getD_cons_zero,List.getD_cons_succ,List.map_cons,List.map_nil,List.length_cons,List.length_nil,List.headD_cons,List.cons_append,List.nil_append,Option.map_some,Option.map_none,Option.getD_some,Bool.false_eq_true,reduceIte,Nat.reduceAdd,Nat.reduceMul,Nat.reduceEqDiff]<;>rfl)):DC:=c
def aYf:=y0 f54 [(0,[(2,6)])] []
def aYe:=y0 f55 [] []
def aYd:=y0 f56 [] []
def aO0:=y0 f133 [] []
def fE:=y0 f135 [] []
def aRi:=y0 f58 [(0,[(22,26),(26,4),(26,9),(26,14),(26,19),(26,22)]),(4,[(1,2)])] []
def O_:=y0 f63 [] []
def aHT:=y0 f19 [] []
def aYP:=y2 f10 [(6,[(4,1),(4,6),(5,6),(6,1),(6,4),(6,5)])] []
def AY{m:Ig}{i:Id}{w:Wb}{o:Oc}{t:Id}(h:Ah m i 0 30=some (I1 w o t)):m i 0=some (.bool w.v.se)∧m i 1=some (.int .i64 w.v.te)∧m i 2=some (.str w.v.key)∧m i 3=some (.slice w.v.nlm [] (Ar w.v.ms))∧m i 4=some (.slice w.v.nlt [] (Ay w.v.ks))∧m i 5=some (.int .u8 w.a.op)∧m i 6=some (.str w.a.tk)∧m i 7=some (.str w.a.pa)∧m i 8=some (.str w.a.ot)∧m i 9=some (.int .i64 w.a.n)∧m i 10=some (.int .i64 w.a.cas)∧m i 11=some (.bool w.a.fl)∧m i 12=some (.slice w.a.nln [] (AE w.a.ns))∧m i 13=some (.str w.a.da)∧m i 14=some (.slice w.a.nlr [] (Aj w.a.rs))∧m i 15=some (.str w.a.key)∧m i 16=some (.slice w.k.es.isEmpty [] (w.k.es.map λx=> .str x.1))∧m i 17=some (.slice w.k.es.isEmpty [] (w.k.es.map λx=> .str x.2.1))∧m i 18=some (.slice w.k.es.isEmpty [] (w.k.es.map λx=> .bool x.2.2))∧m i 19=some (.slice w.k.ls.isEmpty [] (w.k.ls.map λx=> .str x.1))∧m i 20=some (.slice w.k.ls.isEmpty [] (w.k.ls.map lsD))∧m i 21=some (.str o.need)∧m i 22=some (.bool o.li)∧m i 23=some (.str o.rep)∧m i 24=some (.slice o.nl t (BH o.ops))∧m i 25=some (.bool o.vw.se)∧m i 26=some (.int .i64 o.vw.te)∧m i 27=some (.str o.vw.key)∧m i 28=some (.slice o.vw.nlm [] (Ar o.vw.ms))∧m i 29=some (.slice o.vw.nlt [] (Ay o.vw.ks)):=
 ⟨BU h rfl,BU h rfl,BU h rfl,BU h rfl,BU h rfl,BU h rfl,BU h rfl,BU h rfl,BU h rfl,BU h rfl,BU h rfl,BU h rfl,BU h rfl,BU h rfl,BU h rfl,BU h rfl,BU h rfl,BU h rfl,BU h rfl,BU h rfl,BU h rfl,BU h rfl,BU h rfl,BU h rfl,BU h rfl,BU h rfl,BU h rfl,BU h rfl,BU h rfl,BU h rfl⟩
def Wt.cellp{i fr t0 t:Id}{m0 m:Ig}{nl0:Bool}{w:Wb}{o o':Oc}{p:Nat}{ys:List D}(h:Wt i fr m0 nl0 t0 m w o t)(z:p+ys.length<=30)(k:(I1 w o t).take p++ys++(I1 w o t).drop (p+ys.length)=I1 w o' t)(u:o'.nl=o.nl)(q:o'.ops=o.ops):Wt i fr m0 nl0 t0 (m.put i p ys) w o' t:=by
 refine h.cell (by rw[jN h.at_.1 z,k]) u q (λj x hj=>?_);rcases hj with hj|hj
 ·rw[aA hj]
 ·grind [aC,aA]
structure iR (o:Oc):Prop where
 nl:o.nl=true
 ops:o.ops=[]
def S54:=AB [(120,Af aS2)]
def PG:Wb->Oc->List D->Option WY:=RW S54 aYf [] 14
def Tt:(wQ PG).ok Qw 54:=D9 (Ai func54) (Aa aXx Ad)
def nU(w:Wb)(o:Oc)(e:Int)(r:iR o)(x:1<=e∧e<=99):PG w o [.int .i64 e]=some (.tup [],⟨[],false,IY (.fail e),true,[],w.v⟩,none):=by
 refine Bt (λ_=>r.ops) ⟨Qq rfl,λh=>⟨r.nl.symm,r.ops.symm⟩,λl h=>Xd,λi m fr t q n f n0=>?_⟩;have p:=Wt.start q n;unfold aYf;have g:=AY q.1;have a:=aJY e x;have d:t=[]:=q.2.2 r.nl;simp only[↓C2,Ie,simprocAttr,g,Ac S54 120,a];refine Al ?_;simp only[↓C2,Ih,IM,simprocAttr];subst d;exact(p.cellp (o':=⟨[],false,IY (.fail e),true,[],w.v⟩) (Qq rfl) rfl r.nl.symm r.ops.symm).end0 (λ_=>rfl)
def S55:=AB [(121,Af aJX)]
def gP:Wb->Oc->List D->Option WY:=RW S55 aYe [] 13
def kX:(wQ gP).ok Qw 55:=D9 (Ai func55) (Aa aLV Ad)
def H8(w:Wb)(o:Oc)(y:Ry)(u:o.nl=true->o.ops=[])(h:aGb y)(r:ryN y):gP w o [.agg (IL y)]=some (.tup [],{o with rep:=IY y},none):=by
 refine Bt u ⟨Qq rfl,λh=>⟨rfl,rfl⟩,λl h=>Xd,λi m fr t q z sa n0=>?_⟩;have p:=Wt.start q z;unfold aYe;have v:=AY q.1;have n:=tN y h r;have d0:((IL y).map D.un1=IL y∧(IL y).all D.calm1=true)∧D.data (.agg (IL y))=true∧(D.agg (IL y)).cells=IL y∧(IL y).length=10:=by cases y<;>exact⟨⟨rfl,rfl⟩,rfl,rfl,rfl⟩
 obtain⟨⟨d1,d2⟩,d3,d4,d5⟩:=d0;obtain⟨a,b,cc,d,e,f,g,s,j,k,x⟩:∃a b c d e f g i j k,IL y=[a,b,c,d,e,f,g,i,j,k]:=Qh
 rw[x]at d1 d2 n ⊢;simp only[QO,QS,Qo,and_true]at d1;simp only[Q5,Q6,Bool.and_true,Q7]at d2;obtain⟨u0,u1,u2,u3,u4,u5,u6,u7,u8,u9⟩:=d1;obtain⟨k0,k1,k2,k3,k4,k5,k6,k7,k8,k9⟩:=d2;simp only[↓C2,Ie,simprocAttr,v.2.2.2.2.2.2.2.2.2.2.2.2.2.2.2.2.2.2.2.2.2.2.2.1,n0,Ac S55 121,n,u0,u1,u2,u3,u4,u5,u6,u7,u8,u9,k0,k1,k2,k3,k4,k5,k6,k7,k8,k9];exact(p.put.cellp (o':={o with rep:=IY y}) (Qq rfl) rfl rfl rfl).end0 q.2.2
def S56:=AB [(55,wQ gP)]
def W56:Wb->Oc->List D->Option WY:=RW S56 aYd [] 5
def kW:(wQ W56).ok Qw 56:=D9 (Ai func56) (Aa kX Ad)
def L6(w:Wb)(o:Oc)(r:o.nl=true->o.ops=[]):W56 w o []=some (.tup [],{o with rep:=IY .done},none):=by
 refine Bt r ⟨Qq rfl,λh=>⟨rfl,rfl⟩,λl h=>Xd,λi m fr t q n f n0=>?_⟩;have p:=Wt.start q n;unfold aYd;have e:=H8 w o .done r trivial trivial;unfold IL at e;simp only[↓C2,Il,simprocAttr,AR S56 55];refine rB q e ?_;obtain⟨j,c2⟩:=p.call (o':={o with rep:=IY .done}) (d:= .tup []) (ol:=none) (k:=2) n f (λ_=>⟨rfl,rfl⟩) (λl h=>Xd);simp only[↓C2,Ih,simprocAttr];exact j.end0 q.2.2
def bBv:=AB []
def WU:Wb->Oc->List D->Option WY:=RW bBv aO0 [] 16
def aCs:(wQ WU).ok Qw 133:=D9 (Ai func133) Ad
def RT(w:Wb)(o:Oc)(q:Bs)(b:Bool)(r:iR o):WU w o [.str q,.bool b]=some (.tup [],⟨q,b,[],true,[],w.v⟩,none):=by
 refine Bt (λ_=>r.ops) ⟨Qq rfl,λh=>⟨r.nl.symm,r.ops.symm⟩,λl h=>Xd,λi m fr t x n f n0=>?_⟩;have p:=Wt.start x n;unfold aO0;have g:=AY x.1;have d:t=[]:=x.2.2 r.nl;simp only[↓C2,Ie,simprocAttr,g];subst d;exact(p.cellp (o':=⟨q,b,[],true,[],w.v⟩) (Qq rfl) rfl r.nl.symm r.ops.symm).end0 (λ_=>rfl)
def bBx:=AB []
def O8:Wb->Oc->List D->Option WY:=RW bBx aO7 [] 23
def N5:(wQ O8).ok Qw 122:=D9 (Ai func122) Ad
def aIf(w:Wb)(o:Oc)(k:Int)(u v:Bs)(r:o.nl=true->o.ops=[])(z:o.ops.length<=1000):O8 w o [.int .u8 k,.str u,.str v]=some (.tup [],{o with nl:=false,ops:=o.ops++[(k,u,v)]},some ([11])):=by
 refine Bt r ⟨Qq rfl,λh=>Xd,λl h=>XH,λi m fr t ha ea sa n0=>?_⟩;have s:=Wt.start ha ea;unfold aO7;have xx:=AY ha.1;have ma:o.nl=false->i≠t:=λh=>iX ha h
 have f:o.nl=false->m t 0=some (.tok 108):=λh=>FG ha.2.1 h
 have n:∀q,t≠q::fr:=s.loc;have p:o.nl=true->BH o.ops=[]:=λh=>by rw[r h];rfl
 have fa:BH (o.ops++[(k,u,v)])=BH o.ops++[.agg [.int .u8 k,.str u,.str v]]:=by simp[BH,opD]
 have ka:(BH o.ops).length=o.ops.length:=aBA _;simp only[↓C2,Il,simprocAttr,xx.2.2.2.2.2.2.2.2.2.2.2.2.2.2.2.2.2.2.2.2.2.2.2.2.1];refine AF.intro ⟨by simp only[ka];omega,rfl,?_⟩ ?_
 ·cases hn:o.nl with
  |true=>exact .inl rfl
  |false=>exact .inr ⟨by rw[aA (n _)];exact f hn,by
    have:=FG ha.2.1 hn;unfold WJ Cn at ha;simp only[hn,Zk,if_false,this,beq_self_eq_true,ZT]at ha;intro e;rw[e]at ha;simp at ha⟩
 rw[BN p,OH];have a:∀j x,Ir.app (m.put (10::fr) 0 [.tok 108]) (Bm 107 (11::fr) (.slice o.nl t (BH o.ops))) j x=if j=11::fr∧x=0 then some (.tok 108)else if o.nl=false∧j=t∧x=0 then some (.tok 0)else(m.put (10::fr) 0 [.tok 108]) j x:=λj x=>HA
 generalize hM:Ir.app (m.put (10::fr) 0 [.tok 108]) (Bm 107 (11::fr) (.slice o.nl t (BH o.ops)))=M at *;have c:∀x,M i x=m i x:=λx=>by
  rw[a,if_neg (λe=>(n0 11).mp e.1),if_neg (λe=>ma e.1 e.2.1),aA (λe=>(n0 10).mp e)]
 have g:Ah M i 0 30=some (I1 w o t):=by
  rw[←ha.1];exact B2 (λl z=>by
   simp only[A4,Zd]at z;obtain⟨_,_,rfl⟩:=z;exact c _)
 simp only[↓C2,Ie,simprocAttr,xx.2.2.2.2.2.2.2.2.2.2.2.2.2.2.2.2.2.2.2.2.2.2.2.2.1,c];refine⟨rfl,?_,?_,λh=>?_,λj x d y la hm=>?_⟩
 ·rw[jN g (Qq rfl),←fa];rfl
 ·grind [aA]
 ·grind [aA]
 ·have b:∀q,j≠q::fr:=λq e=>by rw[e,ea (q::fr) _ ⟨[q],rfl⟩]at hm;cases hm
  have e1:(M.put i 24 [.slice false (11::fr) (BH o.ops++[.agg [.int .u8 k,.str u,.str v]])]) j x=M j x:=by
   grind [aA,aC]
  refine(show _=_ from e1).trans ?_;rw[a,if_neg (λe=>b 11 e.1),if_neg,aA (b 10)]
  ·exact hm
  ·grind
def aRj:=y0 f57 [(3,[(1,7)])] []
def V1:=y1 f59 6 [] []
def aRh:=y0 f59 [(0,[(10,14),(14,4),(14,9),(14,10)]),(4,[(1,2)])] [(6,V1)]
def aHN:=y0 f60 [(0,[(16,4),(16,9),(16,14)]),(1,[(6,10),(10,4),(10,5),(10,6)])] []
def mK:=y1 f61 5 [] []
def aHM:=y0 f61 [(0,[(10,15),(15,4),(15,9),(15,10)])] [(5,mK)]
def Oc.op(o:Oc)(k:Int)(e v:Bs):Oc:={o with nl:=false,ops:=o.ops++[(k,e,v)]}
def BX(o:Oc)(p:Bs)(ns:List Int):Oc:={o with nl:=o.nl&&ns.isEmpty,ops:=o.ops++ns.map λn=>(2,AO 2 p n,[])}
def aDb{o:Oc}{p:Bs}{ns:List Int}{n:Int}:(BX o p ns).op 2 (AO 2 p n) []=BX o p (ns++[n]):=by
 simp[BX,Oc.op]
def UV{o:Oc}{p:Bs}:BX o p []=o:=by simp[BX]
def UW(ns:List Int):Option (List Nat):=if ns=[]then none else some [11,11*ns.length]
def B_(v:Vw)(p:Bs):Int×Bool:=if Bd v.ms p=-1 then(0,false)else(AZ v.ms (Bd v.ms p).toNat).2
def aP9(v:Vw)(p:Bs):Bs×Int:=if Bd v.ms p=-1 then([],14)else((AZ v.ms (Bd v.ms p).toNat).1,0)
def aBc(v:Vw)(p:Bs):Nd v.ms p= .tup [.agg [.str (aP9 v p).1,.int .i64 (B_ v p).1,.bool (B_ v p).2],.int .i64 (aP9 v p).2]:=by
 unfold Nd B_ aP9;split<;>rfl
def AC{i fr t0 t:Id}{m0 m:Ig}{nl0:Bool}{w:Wb}{o o':Oc}{v:List D}{d:D}{ol:Option (List Nat)}{F:Wb->Oc->List D->Option WY}{S:Ic}{c k n:Nat}{ops l:List DOper}{s:Nat->D}{dst:Option Nat}{K:Nat->(Nat->D)->Ig->Prop}{g}
  (hw:Wt i fr m0 nl0 t0 m w o t) (r:F w o v=some (d,o',ol))
  (h:∀M,Wt i fr m0 nl0 t0 M w o' (NZ t (n::fr) ol)->(∀q x,M (q::fr) x=m (q::fr) x)->CJ S fr c ops l k (Ct s dst d) M K) (z:∀j x,fr<:+j->m0 j x=none:=by assumption) (f:∀k l,(i=l++k::fr)=False:=by assumption) (b:∃S p rs N,F=RW S p rs N:=by exact⟨_,_,_,_,rfl⟩):
  IE ((wQ F).ex (.ptr i 0::v) m (n::fr)) (λx=>cS S fr c ops l k s dst m K x.1 x.2) g:=by
 obtain⟨u,p,rs,N,rfl⟩:=b;obtain⟨_,a,e,_⟩:=FL r;refine rB hw.at_ r ?_;obtain⟨y,c2⟩:=hw.call (o':=o') (d:=d) (ol:=ol) (k:=n) z f a e;exact h _ y c2
def CY{i fr t0 t:Id}{m0 m:Ig}{nl0:Bool}{w:Wb}{o o':Oc}{v:List D}{d:D}{ol:Option (List Nat)}{F:Wb->Oc->List D->Option WY}{S:Ic}{c k n:Nat}{ops l:List DOper}{s:Nat->D}{dst:Option Nat}{op:DOp}{K:Nat->(Nat->D)->Ig->List NH->Prop}{g}
  (hw:Wt i fr m0 nl0 t0 m w o t) (r:F w o v=some (d,o',ol))
  (h:∀M u,u=bV i w o t (n::fr) (d,o',ol)->Wt i fr m0 nl0 t0 M w o' (NZ t (n::fr) ol)->(∀q x,M (q::fr) x=m (q::fr) x)->CI S fr c ops l k (Ct s dst d) M λk' p m' f=>K k' p m' ((Lf S s m op,BP u)::f)) (z:∀j x,fr<:+j->m0 j x=none:=by assumption) (sa:∀k l,(i=l++k::fr)=False:=by assumption) (b:∃S dc rs N,F=RW S dc rs N:=by exact⟨_,_,_,_,rfl⟩):
  IE ((wQ F).ex (.ptr i 0::v) m (n::fr)) (λx=>OY S fr c ops l k s dst m op K x.1 x.2) g:=by
 obtain⟨S',dc,rs,N,rfl⟩:=b;obtain⟨_,a,e,_⟩:=FL r;refine rB hw.at_ r ?_;obtain⟨y,c2⟩:=hw.call (o':=o') (d:=d) (ol:=ol) (k:=n) z sa a e;exact h _ _ rfl y c2
def Eu(w:Wb)(o:Oc)(k:Int)(e v:Bs)(r:o.nl=true->o.ops=[])(z:o.ops.length<=1000):O8 w o [.int .u8 k,.str e,.str v]=some (.tup [],o.op k e v,some [11]):=aIf w o k e v r z
def aZh:=AB [(248,Af aFh)]
def zF:Wb->Oc->List D->Option WY:=RW aZh aDz [.cell (some 2) 4] 19
def aXp:(wQ zF).ok Qw 140:=D9 aL4 (Aa aBH Ad)
def WS(w:Wb)(o:Oc)(p:Bs)(r:o.nl=true->o.ops=[])(z:w.v.ms.length<=1000):zF w o [.str p]=some (.agg [.int .i64 (B_ w.v p).1,.bool (B_ w.v p).2],o,none):=by
 refine Bt r ⟨Qq rfl,λh=>⟨rfl,rfl⟩,λl h=>Xd,λi m fr t q n f n0=>?_⟩;have d:=Wt.start q n;unfold aDz;have g:=AY q.1;have a:=tY (nl:=w.v.nlm) (t:=[]) (l:=w.v.ms) (p:=p) O;rw[aBc]at a;simp only[↓C2,Ie,simprocAttr,g,n0,Ac aZh 248,a];exact d.put.put.put.put.end0 q.2.2
def aIg:=AB [(340,Af aSn),(123,Af Gj),(122,wQ O8)]
def aH9:Wb->Oc->List D->Option WY:=RW aIg aNE [] 18
def aLL:(wQ aH9).ok Qw 244:=D9 (Ai func244) (Aa aWr (Aa LP (Aa N5 Ad)))
def sI(w:Wb)(o:Oc)(p:Bs)(s:Sc)(r:o.nl=true->o.ops=[])(z:o.ops.length<=1000)(j:s.rs.length<=1000)(g:p.length<=1000000):aH9 w o [.str p,.agg (Ik s)]=some (.tup [],o.op 1 (AO 1 p 0) (B1 s),some ([11,12])):=by
 refine Bt r ⟨Qq rfl,λh=>Xd,λl h=>XH,λi m fr t q n f n0=>?_⟩;have d:=Wt.start q n;unfold aNE;have a:=aIF s j;have y:=DG 1 0 p g;have e:=Eu w o 1 (AO 1 p 0) (B1 s) r z;unfold Ik at *;simp only[↓C2,Ie,simprocAttr,Ac aIg 340,a,Ac aIg 123,y,AR aIg 122];refine AC d.put e (λM c1 c2=>?_);simp only[↓C2,Ih,simprocAttr];exact c1.endl (l:=[11,12]) U
def aRR:=AB [(123,Af Gj),(122,wQ O8)]
def zD:Wb->Oc->List D->Option WY:=RW aRR aND [] 20
def aCo:(wQ zD).ok Qw 245:=D9 (Ai func245) (Aa LP (Aa N5 Ad))
def WQ(w:Wb)(o:Oc)(p:Bs)(nl:Bool)(tq:Id)(ns:List Int)(ho:o.nl=true->o.ops=[])(q:o.ops.length+ns.length<=1000)(hp:p.length<=1000000):zD w o [.str p,.slice nl tq (AE ns)]=some (.tup [],BX o p ns,UW ns):=by
 refine Bt ho ⟨Qq rfl,λh=>(by unfold UW at h;split at h<;>simp_all [BX]),λl h=>(by unfold UW at h;split at h<;>simp_all [BX];subst h;simp),λi m fr t x ea sa n0=>?_⟩;have hW:=Wt.start x ea;unfold aND;simp only[↓C2,Ih,simprocAttr,Bb];refine AV (n:=ns.length) (I:=λj z=>z.s 8= .slice nl tq (AE ns)∧z.s 9= .int .i64 ns.length∧z.s 10= .int .i64 (j:Int)∧z.s 0= .ptr i 0∧z.s 1= .str p∧z.c=3+11*j∧Wt i fr m o.nl t z.m w (BX o p (ns.take j)) (if j=0 then t else [11,11*j]++fr)) (λj k ih z g hI=>?_) (λz g hI=>?_) 0 (Qz _) _ _ ⟨rfl,rfl,rfl,rfl,rfl,rfl,by simp only[QL,UV,if_true];exact hW⟩
 ·obtain⟨ja,da,b⟩:=z;obtain⟨h8,h9,la,f,u,hc,hw⟩:=hI;simp only at h8 h9 la f u hc hw;refine Ae Wo.eq_1 ?_;have v:((j:Int)<(ns.length:Int))=True:=eq_true O;have qa:=nJ (j:=j);have d:=Mo (l:=ns) (j:=j) k;have wa:IntKind.i64.wrap ((j:Int)+1)=((j+1:Nat):Int):=by rw[Iz O O];omega
  have y:=DG 2 ns[j] p hp;have ka:(BX o p (ns.take j)).nl=true->(BX o p (ns.take j)).ops=[]:=λh=>by
   simp only[BX,Q7,Zg]at h ⊢;rw[ho h.1,h.2];rfl
  have na:(BX o p (ns.take j)).ops.length<=1000:=by simp[BX];omega
  have ia:=Eu w (BX o p (ns.take j)) 2 (AO 2 p ns[j]) [] ka na;rw[aDb,←Zo k]at ia;simp only[↓C2,Il,simprocAttr,f,u,h8,h9,la,v,qa,Qv,d,Ac aRR 123,y,AR aRR 122];refine AC hw ia (λM c1 c2=>?_);have e:NZ (if j=0 then t else [11,11*j]++fr) ((b+1+3+4)::fr) (some [11])=(if j+1=0 then t else [11,11*(j+1)]++fr):=by
   rw[if_neg (Qp j)];show [11]++_::fr=_;rw[show b+1+3+4=11*(j+1)by omega];rfl
  rw[e]at c1;simp only[↓C2,Ih,simprocAttr,la,wa];exact ih _ _ ⟨h8,h9,rfl,f,u,Xb,c1⟩
 ·obtain⟨ja,da,b⟩:=z;obtain⟨h8,h9,la,f,u,hc,hw⟩:=hI;simp only at h8 h9 la f u hc hw;refine Ae Wo.eq_1 ?_;simp only[↓C2,Ih,Ii,IU,simprocAttr,h9,la,ZV];rw[ZN]at hw;unfold UW;cases ns with
  |nil=>exact hw.end0 x.2.2
  |cons a r=>exact hw.endl (l:=[11,11*(r.length+1)]) U
def aB9(w:Wb)(p:Bs):Bs×Bool×Bool:=DX w.k (AO 1 p 0)
def Pb:=AB [(123,Af Gj),(137,Af PR),(133,wQ WU),(240,Af aSN)]
def DS:Wb->Oc->List D->Option WY:=RW Pb fE [.cell (some 4) 4,.t 5,.t 6] 42
def aLT:(wQ DS).ok Qw 135:=D9 (Ai func135:Fn Qw 135 42 fE [.cell (some 4) 4,.t 5,.t 6]) (Aa LP (Aa aLS (Aa aCs (Aa aWX Ad))))
def zH(w:Wb)(o:Oc)(p:Bs)(r:iR o)(g:p.length<=1000000)(j:w.k.es.length<=1000)(a:Bs×Bool×Bool)(z:aB9 w p=a)(u:a.2.2=false):DS w o [.str p]=some (.tup [.agg (Ik sc0),.bool false,.bool false],⟨AO 1 p 0,false,[],true,[],w.v⟩,none):=by
 refine Bt (λ_=>r.ops) ⟨Qq rfl,λh=>⟨r.nl.symm,r.ops.symm⟩,λl h=>Xd,λi m fr t q n sa n0=>?_⟩;have hW:=Wt.start q n;unfold fE;obtain⟨f,d,b⟩:=a;simp only at u;have y:=DG 1 0 p g;have x:=RX w.k (AO 1 p 0) j;rw[show DX w.k (AO 1 p 0)=_ from z]at x;unfold IQ at x;have xx:=AY q.1;subst u;have e:=RT w o (AO 1 p 0) false r;simp only[↓C2,Ie,simprocAttr,xx,n0,Ac Pb 123,y,Ac Pb 137,x,AR Pb 133];refine AC hW.put e (λM s c2=>?_);simp only[↓C2,Ie,simprocAttr,c2];exact s.put.end0 q.2.2
def aIe(w:Wb)(o:Oc)(p:Bs)(r:iR o)(g:p.length<=1000000)(j:w.k.es.length<=1000)(mt:Bs×Bool×Bool)(z:aB9 w p=mt)(u:mt.2.2=true)(ht:mt.1.length<=1000000)(hb:mt.2.1=false∨(Cq mt.1).2≠0):DS w o [.str p]=some (.tup [.agg (Ik sc0),.bool false,.bool true],o,none):=by
 refine Bt (λ_=>r.ops) ⟨Qq rfl,λh=>⟨rfl,rfl⟩,λl h=>Xd,λi m fr t q n sa n0=>?_⟩;have hW:=Wt.start q n;unfold fE;obtain⟨f,d,b⟩:=mt;simp only at u;have y:=DG 1 0 p g;have c:=RX w.k (AO 1 p 0) j;rw[show DX w.k (AO 1 p 0)=_ from z]at c;unfold IQ at c;have a:=sX f ht;unfold Ik at a;have v:=AY q.1;subst u;simp only at hb;generalize Cq f=se at *;obtain⟨s,e⟩:=se;simp only at hb a;cases d with
 |false=>
  simp only[↓C2,Ie,simprocAttr,v,n0,Ac Pb 123,y,Ac Pb 137,c,Ac Pb 240,a];exact hW.put.put.put.end0 q.2.2
 |true=>
  have x:(e=0)=False:=eq_false (hb.resolve_left U);simp only[↓C2,Ie,simprocAttr,v,n0,Ac Pb 123,y,Ac Pb 137,c,Ac Pb 240,a,x];exact hW.put.put.put.end0 q.2.2
def aEs(w:Wb)(o:Oc)(p:Bs)(r:iR o)(g:p.length<=1000000)(j:w.k.es.length<=1000)(mt:Bs×Bool×Bool)(z:aB9 w p=mt)(u:mt.2.2=true)(ht:mt.1.length<=1000000)(hb:mt.2.1=true)(x:(Cq mt.1).2=0):DS w o [.str p]=some (.tup [.agg (Ik (Cq mt.1).1),.bool true,.bool true],o,none):=by
 refine Bt (λ_=>r.ops) ⟨Qq rfl,λh=>⟨rfl,rfl⟩,λl h=>Xd,λi m fr t q n sa n0=>?_⟩;have hW:=Wt.start q n;unfold fE;obtain⟨f,d,b⟩:=mt;simp only at u;have y:=DG 1 0 p g;have c:=RX w.k (AO 1 p 0) j;rw[show DX w.k (AO 1 p 0)=_ from z]at c;unfold IQ at c;have a:=sX f ht;unfold Ik at a;have v:=AY q.1;subst u;simp only at hb x ⊢;generalize Cq f=se at *;obtain⟨s,e⟩:=se;simp only at x a;subst hb x;simp only[↓C2,Ie,simprocAttr,v,n0,Ac Pb 123,y,Ac Pb 137,c,Ac Pb 240,a];exact hW.put.put.put.end0 q.2.2
def M7(o:Oc)(p:Bs)(s:Sc)(gone:List Int):Oc:={BX (o.op 1 (AO 1 p 0) (B1 s)) p gone with rep:=IY .done}
def aEx:=AB [(54,wQ PG),(244,wQ aH9),(245,wQ zD),(56,wQ W56)]
def WR:Wb->Oc->List D->Option WY:=RW aEx aDy [] 31
def aXo:(wQ WR).ok Qw 141:=D9 (Ai func141) (Aa Tt (Aa aLL (Aa aCo (Aa kW Ad))))
def zE(w:Wb)(o:Oc)(s:Sc)(gnl:Bool)(gone:List Int)(e:Int)(r:iR o)(x:1<=e∧e<=99):WR w o [.agg (Ik s),.slice gnl [] (AE gone),.int .i64 e]=some (.tup [],⟨[],false,IY (.fail e),true,[],w.v⟩,none):=by
 refine Bt (λ_=>r.ops) ⟨Qq rfl,λh=>⟨r.nl.symm,r.ops.symm⟩,λl h=>Xd,λi m fr t q n f n0=>?_⟩;have p:=Wt.start q n;unfold aDy;unfold Ik;have y:=nU w o e r x;have g:(e=0)=False:=eq_false O;simp only[↓C2,Il,simprocAttr,g,AR aEx 54];refine AC p.put y (λM j c2=>?_);simp only[↓C2,Ih,simprocAttr];exact j.end0 q.2.2
def aIc(w:Wb)(o:Oc)(s:Sc)(gnl:Bool)(gone:List Int)(r:iR o)(x:gone.length<=900)(j:s.rs.length<=1000)(g:w.a.pa.length<=1000000):WR w o [.agg (Ik s),.slice gnl [] (AE gone),.int .i64 0]=some (.tup [],M7 o w.a.pa s gone,some (if gone=[]then [11,12,10]else [11,11*gone.length,18])):=by
 refine Bt (λ_=>r.ops) ⟨Qq rfl,λh=>Xd,λl h=>(by simp only[QP]at h;subst h;exact⟨rfl,by split<;>simp⟩),λi m fr t q n f n0=>?_⟩;have hW:=Wt.start q n;unfold aDy;have e:=AY q.1;have b:=sI w o w.a.pa s (λ_=>r.ops) (by rw[r.ops];simp) j g;have d:=WQ w (o.op 1 (AO 1 w.a.pa 0) (B1 s)) w.a.pa gnl [] gone (λh=>Xd) (by simp[Oc.op,r.ops];omega) g;have z:=L6 w (BX (o.op 1 (AO 1 w.a.pa 0) (B1 s)) w.a.pa gone) (λh=>by simp[BX,Oc.op]at h);unfold Ik at *;simp only[↓C2,Ie,simprocAttr,e.2.2.2.2.2.2.2.1,n0,AR aEx 244];refine CY hW.put b (λM u k y c2=>?_);have e:=AY y.at_.1;simp only[↓C2,IM,simprocAttr];refine AF.intro (λp g=>Xm) ?_;simp only[↓C2,Ih,Ii,IU,simprocAttr,e.2.2.2.2.2.2.2.1,AR aEx 245];refine AC y d (λv d1 d2=>?_);simp only[↓C2,Ih,Ii,simprocAttr,AR aEx 56];refine AC d1 z (λM3 e1 e2=>?_);simp only[↓C2,Ih,simprocAttr];unfold UW at e1;split
 ·rename_i c;rw[if_pos c]at e1;exact e1.endl (l:=[11,12,10]) U
 ·rename_i c;rw[if_neg c]at e1;exact e1.endl (l:=[11,11*gone.length,18]) U
def C_(l:List Rw):List Int:=(l.filter λx=>!x.2.2).map (·.1)
def Vx:List Rw->Nat->List Nat->List Nat
 |[],_,L=>L
 |x::r,c,L=>if x.2.2=true then Vx r (c+10) L else Vx r (c+20) [11,11,c+17]
def Vv:∀{l:List Rw} {c:Nat} {L:List Nat},L≠[]->Vx l c L≠[]
 |[],_,_,h=>h
 |x::r,c,L,h=>by
  unfold Vx;split
  ·exact Vv h
  ·exact Vv U
def FQ(o:Oc)(p:Bs)(l:List Rw):Oc:=BX (o.op 2 (AO 1 p 0) []) p (C_ l)
def xG{o:Oc}{p:Bs}{a b:List Int}:BX (BX o p a) p b=BX o p (a++b):=by
 simp only[BX,ZR,ZC,ZL,Oc.mk.injEq,true_and,and_true];cases a<;>cases b<;>simp
def nN(l:List Rw):(C_ l).length<=l.length:=by
 grind [C_]
def gG(l:List Rw)(x:Rw):C_ (l++[x])=C_ l++if x.2.2=true then []else [x.1]:=by
 grind [C_]
def Vu{o:Oc}{p:Bs}{l:List Rw}:(FQ o p l).nl=false:=by simp[FQ,BX,Oc.op]
def aBp{o:Oc}{p:Bs}{l:List Rw}:(FQ o p l).ops.length=o.ops.length+1+(C_ l).length:=by simp[FQ,BX,Oc.op];omega
def aEw:=AB [(123,Af Gj),(122,wQ O8),(245,wQ zD),(56,wQ W56)]
def aIb:Wb->Oc->List D->Option WY:=RW aEw aOW [] 37
def aXn:(wQ aIb).ok Qw 142:=D9 (Ai func142) (Aa LP (Aa N5 (Aa aCo (Aa kW Ad))))
def aIa(w:Wb)(o:Oc)(s:Sc)(r:iR o)(hs:s.rs.length<=900)(hp:w.a.pa.length<=1000000):aIb w o [.agg (Ik s)]=some (.tup [],{FQ o w.a.pa s.rs with rep:=IY .done},some (Vx s.rs 13 [11,8])):=by
 refine Bt (λ_=>r.ops) ⟨Qq rfl,λh=>Xd,λl h=>(by simp only[QP]at h;subst h;exact⟨Vu (o:=o) (p:=w.a.pa) (l:=s.rs),Vv U⟩),λi m fr t q ea sa n0=>?_⟩;have hW:=Wt.start q ea;unfold aOW;have xx:=AY q.1;have y:=DG 1 0 w.a.pa hp;have ia:=Eu w o 2 (AO 1 w.a.pa 0) [] (λ_=>r.ops) (by rw[r.ops];simp);unfold Ik;simp only[↓C2,Il,simprocAttr,xx.2.2.2.2.2.2.2.1,n0,Ac aEw 123,y,AR aEw 122];refine AC hW.put ia (λM c1 c2=>?_);simp only[↓C2,Ih,Ii,IU,simprocAttr,c2,As];refine AV (n:=s.rs.length) (I:=λj z=>z.s 15= .slice s.nl [] (AU s.rs)∧z.s 16= .int .i64 s.rs.length∧z.s 17= .int .i64 (j:Int)∧z.s 0= .ptr i 0∧∃L,L≠[]∧Vx (s.rs.drop j) z.c L=Vx s.rs 13 [11,8]∧Wt i fr m o.nl t z.m w (FQ o w.a.pa (s.rs.take j)) (L++fr)) (λj hj ih z g hI=>?_) (λz g hI=>?_) 0 (Qz _) _ _ ⟨rfl,rfl,rfl,rfl,[11,8],U,rfl,by have c3:Wt i fr m o.nl t M w (o.op 2 (AO 1 w.a.pa 0) []) ([11,8]++fr):=c1;simpa[FQ,C_,UV]using c3⟩
 ·obtain⟨ja,da,fa⟩:=z;obtain⟨ra,ta,ka,ua,L,hL,hn,hw⟩:=hI;simp only at ra ta ka ua hn hw;refine Ae WF.eq_1 ?_;have v:((j:Int)<(s.rs.length:Int))=True:=eq_true O;have qa:=nJ (j:=j);have ga:=C8 (l:=s.rs) (j:=j) hj;have wa:IntKind.i64.wrap ((j:Int)+1)=((j+1:Nat):Int):=by rw[Iz O O];omega
  have k:s.rs.drop j=s.rs[j]::s.rs.drop (j+1):=Zh hj;have na:s.rs.take (j+1)=s.rs.take j++[s.rs[j]]:=Zo hj;rw[k]at hn;generalize s.rs[j]=x at *;obtain⟨n,b,f⟩:=x;have ma:=gG (s.rs.take j) (n,b,f);rw[←na]at ma;simp only at ma ga;have xx:=AY hw.at_.1;cases f with
  |true=>
   simp only[↓C2,Ie,simprocAttr,ra,ta,ka,v,qa,Qv,ga,wa];refine ih _ _ ⟨ra,ta,rfl,ua,L,hL,by simpa[Vx]using hn,?_⟩;have e:FQ o w.a.pa (s.rs.take (j+1))=FQ o w.a.pa (s.rs.take j):=by unfold FQ;rw[ma];simp
   rw[e];exact(hw.put.put)
  |false=>
   have e:BX (FQ o w.a.pa (s.rs.take j)) w.a.pa [n]=FQ o w.a.pa (s.rs.take (j+1)):=by unfold FQ;rw[ma,xG];rfl
   have oa:(FQ o w.a.pa (s.rs.take j)).ops.length+1<=1000:=by
    rw[aBp,r.ops];have:=nN (s.rs.take j);rw[Zc]at this;simp only[QD];omega
   have d:=WQ w (FQ o w.a.pa (s.rs.take j)) w.a.pa false ((fa+1+4+3+8)::fr) [n] (λh=>by rw[Vu]at h;cases h) oa hp;rw[e]at d;have d:zD w (FQ o w.a.pa (s.rs.take j)) [.str w.a.pa,.slice false ((fa+1+4+3+8)::fr) [.int .i64 n]]=some (.tup [],FQ o w.a.pa (s.rs.take (j+1)),some [11,11]):=d;simp only[↓C2,Ie,simprocAttr,ua,ra,ta,ka,v,qa,Qv,ga,xx.2.2.2.2.2.2.2.1,n0,AR aEw 245];refine CY hw.put.put.put d (λM u hu c1 c2=>?_);simp only[↓C2,IM,Ii,IU,simprocAttr];refine AF.intro (Ce ?_) ?_
   ·simp[Ec,BP,Lf,A4];show ¬((fa+1+4+3+8)::fr,0)∈[(i,7)];intro hm;simp only[Q_,Zr]at hm;exact(n0 _).mp hm.1.symm
   simp only[↓C2,Ih,simprocAttr,ka,wa];refine ih _ _ ⟨ra,ta,rfl,ua,[11,11,fa+17],U,by simpa[Vx]using hn,c1⟩
 ·obtain⟨ja,da,fa⟩:=z;obtain⟨ra,ta,ka,ua,L,hL,hn,hw⟩:=hI;simp only at ra ta ka ua hn hw;refine Ae WF.eq_1 ?_;have ya:=L6 w (FQ o w.a.pa s.rs) (λh=>by rw[Vu]at h;cases h);rw[ZN]at hw;rw[List.drop_length]at hn;simp only[↓C2,Ih,Ii,IU,simprocAttr,ua,ta,ka,ZV,AR aEw 56];refine AC hw ya (λM c1 c2=>?_);simp only[↓C2,Ih,simprocAttr];rw[←hn];exact c1.endl hL
theorem F9{l:Loc}{i:Id}{o n:Nat}(h:l∈A4 i o n):l.1=i:=by
 grind [A4]
def EE{l:Loc}{i:Id}{o:Nat}{ds:List D}(h:l∈BP [(i,o,ds)]):l.1=i:=by
 grind [BP,F9]
def EX{l:Loc}{P:Prop}(h:l∈([]:List Loc)):P:=Xd
def bN{p K:Prop}{t:Tag K}(k:K) (h:p:=by
 intro f hpp l w;simp only[Q0,Zq,or_false]at hpp
 repeat (rcases hpp with rfl|hpp;· first|exact EX w|exact⟨λh=>EX h,λh=>EX h⟩|(have d:=EE w;refine⟨λh=>?_,λh=>EX h⟩;first|(change l∈A4 _ _ _ at h;first|exact(n0 _).mp ((F9 h).symm.trans d)|(have:=d.symm.trans (F9 h);simp at this;done))|(rcases ZD.1 h with h|h;· exact(n0 _).mp ((F9 h).symm.trans d);· rw[a1]at h;rw[Q_.1 h]at d;exact c1.loc _ d)))):AF p K t:=⟨h,k⟩
def aAr(o:Oc)(p:Bs)(r:Sc×Int×List Int×Int)(data:Bs):Oc:={BX ((o.op 1 (AO 1 p 0) (B1 r.1)).op 1 (AO 2 p r.2.1) data) p r.2.2.1 with rep:=IY (.number r.2.1)}
def Td:=AB [(140,wQ zF),(243,Af aSL),(54,wQ PG),(244,wQ aH9),(123,Af Gj),(122,wQ O8),(245,wQ zD),(55,wQ gP)]
def WT:Wb->Oc->List D->Option WY:=RW Td aDA [] 50
def aLR:(wQ WT).ok Qw 138:=D9 (Ai func138) (Aa aXp (Aa aWV (Aa Tt (Aa aLL (Aa LP (Aa N5 (Aa aCo (Aa kX Ad))))))))
def zG(w:Wb)(o:Oc)(p:Bs)(s:Sc)(cas:Int)(data:Bs)(f:iR o)(hs:s.rs.length<=800)(ta:s.nl=true->s.rs=[])(hp:p.length<=1000000)(k:data.length<=1000000)(hm:w.v.ms.length<=1000)(r:Sc×Int×List Int×Int)(hr:Cr s (B_ w.v p).1 (B_ w.v p).2 cas data.length=r)(j:1<=r.2.2.2∧r.2.2.2<=99):WT w o [.str p,.agg (Ik s),.int .i64 cas,.str data]=some (.tup [],⟨[],false,IY (.fail r.2.2.2),true,[],w.v⟩,none):=by
 refine Bt (λ_=>f.ops) ⟨Qq rfl,λh=>⟨f.nl.symm,f.ops.symm⟩,λl h=>Xd,λi m fr t x ea sa n0=>?_⟩;have hW:=Wt.start x ea;unfold aDA;have a:=sV s (B_ w.v p).1 (B_ w.v p).2 cas data.length O ta;rw[hr]at a;obtain⟨s2,n,gone,e⟩:=r;simp only at j a ⊢;have c:=WS w o p (λ_=>f.ops) hm;generalize B_ w.v p=qb at *;unfold Ik at *;simp only[↓C2,Ie,simprocAttr,AR Td 140];refine CY hW.put c (λM u hu c1 c2=>?_);simp only[↓C2,Ie,simprocAttr,Ac Td 243,a];refine AF.intro ?_ ?_
 ·subst hu;have a1:=aEa (hW.put (q:=0) (p:=0) (ys:=[.int .i64 s.mx,.bool s.cas,.int .i64 s.la,.slice s.nl [] (AU s.rs)])).at_.1;intro pp d l z;simp only[Q0,Zq,or_false]at d;rcases d with rfl|rfl|rfl|rfl|rfl|rfl
  ·change l∈BP [(i,0,I1 w o t)]at z;refine⟨λh=>?_,λh=>EX h⟩;change l∈A4 (0::fr) 0 4 at h;exact(n0 0).mp ((EE z).symm.trans (F9 h))
  ·change l∈BP [(i,0,I1 w o t)]at z;exact⟨λh=>EX h,λh=>(n0 14).mp ((EE z).symm.trans (EE h))⟩
  ·exact EX z
  ·have b:l.1=14::fr:=EE z;refine⟨λh=>?_,λh=>EX h⟩;change l∈A4 (0::fr) 0 4 at h;have:=b.symm.trans (F9 h);simp at this
  ·have b:l.1=14::fr:=EE z;refine⟨λh=>?_,λh=>?_⟩
   ·rcases ZD.1 h with h|h
    ·grind [F9]
    ·rw[a1]at h;rw[Q_.1 h]at b;exact hW.loc 14 b
   ·change l∈BP [(i,0,I1 w o t)]at h;exact(n0 14).mp ((EE h).symm.trans b)
  ·exact⟨λh=>EX h,λh=>EX h⟩
 have y:=nU w o e f j;have g:(e=0)=False:=eq_false O;simp only[↓C2,Il,simprocAttr,g,AR Td 54];refine AC c1.put.put y (λM2 d1 d2=>?_);simp only[↓C2,Ih,simprocAttr];exact d1.end0 x.2.2
def aId(w:Wb)(o:Oc)(p:Bs)(s:Sc)(cas:Int)(data:Bs)(f:iR o)(hs:s.rs.length<=800)(ta:s.nl=true->s.rs=[])(g:p.length<=1000000)(k:data.length<=1000000)(hm:w.v.ms.length<=1000)(r:Sc×Int×List Int×Int)(hr:Cr s (B_ w.v p).1 (B_ w.v p).2 cas data.length=r)(j:r.2.2.2=0)(ua:r.1.rs.length<=1000)(hg:r.2.2.1.length<=900):WT w o [.str p,.agg (Ik s),.int .i64 cas,.str data]=some (.tup [],aAr o p r data,some (if r.2.2.1=[]then [11,30]else [11,11*r.2.2.1.length,34])):=by
 refine Bt (λ_=>f.ops) ⟨Qq rfl,λh=>Xd,λl h=>(by simp only[QP]at h;subst h;exact⟨by simp[aAr,BX,Oc.op],by split<;>simp⟩),λi m fr t x ea sa n0=>?_⟩;have hW:=Wt.start x ea;unfold aDA;have a:=sV s (B_ w.v p).1 (B_ w.v p).2 cas data.length O ta;rw[hr]at a;obtain⟨s2,n,gone,e⟩:=r;simp only at j a ua hg ⊢;subst j;have c:=WS w o p (λ_=>f.ops) hm;generalize B_ w.v p=qb at *;unfold Ik at *;simp only[↓C2,Ie,simprocAttr,AR Td 140];refine CY hW.put c (λM u hu c1 c2=>?_);simp only[↓C2,Ie,simprocAttr,Ac Td 243,a];refine AF.intro ?_ ?_
 ·subst hu;have a1:=aEa (hW.put (q:=0) (p:=0) (ys:=[.int .i64 s.mx,.bool s.cas,.int .i64 s.la,.slice s.nl [] (AU s.rs)])).at_.1;intro pp ga l z;simp only[Q0,Zq,or_false]at ga;rcases ga with rfl|rfl|rfl|rfl|rfl|rfl
  ·change l∈BP [(i,0,I1 w o t)]at z;refine⟨λh=>?_,λh=>EX h⟩;change l∈A4 (0::fr) 0 4 at h;exact(n0 0).mp ((EE z).symm.trans (F9 h))
  ·change l∈BP [(i,0,I1 w o t)]at z;exact⟨λh=>EX h,λh=>(n0 14).mp ((EE z).symm.trans (EE h))⟩
  ·exact EX z
  ·have fa:l.1=14::fr:=EE z;refine⟨λh=>?_,λh=>EX h⟩;change l∈A4 (0::fr) 0 4 at h;have:=fa.symm.trans (F9 h);simp at this
  ·have fa:l.1=14::fr:=EE z;refine⟨λh=>?_,λh=>?_⟩
   ·rcases ZD.1 h with h|h
    ·grind [F9]
    ·rw[a1]at h;rw[Q_.1 h]at fa;exact hW.loc 14 fa
   ·change l∈BP [(i,0,I1 w o t)]at h;exact(n0 14).mp ((EE h).symm.trans fa)
  ·exact⟨λh=>EX h,λh=>EX h⟩
 have b:=sI w o p s2 (λ_=>f.ops) (by rw[f.ops];simp) ua g;have y:=DG 2 n p g;have ia:=Eu w (o.op 1 (AO 1 p 0) (B1 s2)) 1 (AO 2 p n) data (λh=>Xd) (by simp[Oc.op,f.ops]);have d:=WQ w ((o.op 1 (AO 1 p 0) (B1 s2)).op 1 (AO 2 p n) data) p (decide (gone=[])) [] gone (λh=>Xd) (by simp[Oc.op,f.ops];omega) g;have va:=H8 w (BX ((o.op 1 (AO 1 p 0) (B1 s2)).op 1 (AO 2 p n) data) p gone) (.number n) (λh=>by simp[BX,Oc.op]at h) trivial trivial;unfold Ik at b;unfold IL at va;simp only[↓C2,Ie,simprocAttr,AR Td 244];refine AC c1.put.put b (λM2 d1 d2=>?_);simp only[↓C2,Ij,simprocAttr,Ac Td 123,y,AR Td 122];refine AC d1 ia (λM3 e1 e2=>?_);simp only[↓C2,Ih,Ii,simprocAttr,AR Td 245];refine AC e1 d (λM4 f1 f2=>?_);simp only[↓C2,Il,simprocAttr,AR Td 55];refine AC f1 va (λM5 g1 g2=>?_);simp only[↓C2,Ih,simprocAttr];unfold UW at g1;split
 ·rename_i xa;rw[if_pos xa]at g1;exact g1.endl (l:=[11,30]) U
 ·rename_i xa;rw[if_neg xa]at g1;exact g1.endl (l:=[11,11*gone.length,34]) U
def TA:=y0 f64 [(7,[(7,0),(7,12),(7,17),(7,23),(18,23),(23,0),(23,6),(23,7),(23,12),(23,17),(23,18)]),(16,[(6,10),(10,0),(10,5),(10,6)]),(19,[(6,10),(10,0),(10,5),(10,6)]),(2,[(6,11),(11,0),(11,5),(11,6)])] []
def rdQ(F:Wb->Oc->List D->Option WY):IS where
 rd:=(wQ F).rd
 ex:=λds m fr=>match ds with
  | .ptr i 0::rest=>(Un (WJ m i)).bind λx=>(F x.1 x.2.1 rest).bind λy=>open Classical in if y.2.1=x.2.1∧y.2.2=none then some (y.1,[])else none
  |_=>none
def aGu{F:Wb->Oc->List D->Option WY}(ds:List D)(m m':Ig)(fr:Id)(h:∀l∈(rdQ F).rd ds m,m l.1 l.2=m' l.1 l.2):(rdQ F).ex ds m fr=(rdQ F).ex ds m' fr:=by
 simp only[rdQ,wQ]at h ⊢;split
 ·rename_i i v;have y:Ah m i 0 30=Ah m' i 0 30:=B2 (λl z=>h l (ZF _ z));have g:WJ m i=WJ m' i:=by
   funext x;obtain⟨w,o,t⟩:=x;apply propext;unfold WJ;rw[y];have e:Ah m' i 0 30=some (I1 w o t)->Cn m 107 o.nl t o.ops.isEmpty=Cn m' 107 o.nl t o.ops.isEmpty:=λk=>by
    refine E0 (h (t,0) (ZE _ ?_));have:=aEa (y.trans k);rw[this];simp
   constructor
   ·rintro⟨a,b,c⟩;exact⟨a,by rw[←e a];exact b,c⟩
   ·rintro⟨a,b,c⟩;exact⟨a,by rw[e a];exact b,c⟩
  rw[g]
 ·rfl
def aQc{S:Ic}{f:FuncId}{N:Nat}{dc:DC}{rs:List RV}(hf:Fn Qw f N dc rs)(hS:Ic.ok Qw S):(rdQ (RW S dc rs N)).ok Qw f:=by
 refine Gy hS hf aGu (λds m fr r u y n=>?_);simp only[rdQ]at y;split at y
 ·rename_i i z;rw[Zm]at y;obtain⟨⟨w,o,t⟩,g,y⟩:=y;rw[Zm]at y;obtain⟨⟨y1,y2,y3⟩,hF,y⟩:=y;simp only at y;split at y
  ·rename_i hy;obtain⟨rfl,rfl⟩:=hy;simp only[QP,Zr]at y;obtain⟨rfl,rfl⟩:=y;have ga:=Um g;obtain⟨hN,qa,ua,q⟩:=FL hF;have ka:m i 0=some (.bool w.v.se):=PT ga.1;have sa:∀k l,(i=l++k::fr)=False:=λk l=>eq_false (λe=>by
    rw[e,n _ _ ⟨l++[k],U⟩]at ka;cases ka)
   refine⟨hN,NK (q i m fr t ga n sa (λk=>sa k [])) (λe la he=>?_)⟩;obtain⟨c,d,da,rfl,hE⟩:=he;refine⟨c,_,da,rfl,λj x dd p=>?_⟩;obtain⟨g1,g2⟩:=hE;have b:m j x=some dd:=p;by_cases s:j≠i∨30<=x
   ·exact g2 j x dd s b
   ·have eb:j=i:=Classical.byContradiction (λh=>s (.inl h));have a:x<30:=Zx (λh=>s (.inr h));subst eb;obtain⟨v,hv⟩:∃v,(I1 w y2 t)[x]?=some v:=⟨_,Qs (by rw[Dy];exact a)⟩;have e1:=BU ga.1 hv;have e2:=BU g1 hv;rw[e2,←e1,b]
  ·cases y
 ·cases y
def aQ8{F:Wb->Oc->List D->Option WY}{w:Wb}{o:Oc}{t i fr:Id}{m:Ig}{v:List D}{d:D}{K:D×Ir->Prop}{g}(q:WJ m i (w,o,t))(r:F w o v=some (d,o,none))(h:K (d,[])):IE ((rdQ F).ex (.ptr i 0::v) m fr) K g:=by
 refine aI ?_ h;simp only[rdQ,cZ q (λz p=>fZ q p),Qy,r,and_self,if_true]
def Wt.endc{i fr t0:Id}{m0 m:Ig}{nl0:Bool}{w:Wb}{o:Oc}{k:Nat}{d:D}{ol:Option (List Nat)}(h:Wt i fr m0 nl0 t0 m w o (NZ t0 (k::fr) ol))(v:nl0=true->t0=[]):WE i fr m0 nl0 t0 w (d,o,ol.map (·++[k])) d m:=by
 cases ol with
 |none=>exact h.end0 v
 |some l=>
  have q:Wt i fr m0 nl0 t0 m w o ((l++[k])++fr):=by simpa[NZ]using h
  exact q.endl U
def Da{S:Ic}{p:DC}{rs:List RV}{N:Nat}{w:Wb}{o o':Oc}{v:List D}{d:D}{ol:Option (List Nat)}{k:Nat}(g:RW S p rs N w o v=some (d,o',ol))(h:ol.map (·++[k])=none):o'.nl=o.nl∧o'.ops=o.ops:=(FL g).2.1 Xl
def C9{S:Ic}{p:DC}{rs:List RV}{N:Nat}{w:Wb}{o o':Oc}{v:List D}{d:D}{ol:Option (List Nat)}{k:Nat}{l:List Nat}(g:RW S p rs N w o v=some (d,o',ol))(h:ol.map (·++[k])=some l):o'.nl=false∧l≠[]:=by
 cases ol with
 |none=>cases h
 |some u=>
  simp only[ZB,QP]at h;subst h;exact⟨((FL g).2.2.1 u rfl).1,U⟩
def aT2:(rdQ zF).ok Qw 140:=aQc aL4 (Aa aBH Ad)
def Tb:=AB [(135,wQ DS),(138,wQ WT),(140,rdQ zF),(139,Af aJQ),(141,wQ WR),(54,wQ PG),(55,wQ gP),(142,wQ aIb),(143,Af aJO),(144,Af aJM),(145,Af aJK)]
def U1:Wb->Oc->List D->Option WY:=RW Tb TA [] 172
def bAA:(wQ U1).ok Qw 64:=D9 (Ai func64) (Aa aLT (Aa aLR (Aa aT2 (Aa aXq (Aa aXo (Aa Tt (Aa kX (Aa aXn (Aa aXm (Aa aXl (Aa aXk Ad)))))))))))
def aEj(w:Wb)(o:Oc)(s:Sc)(x:Bool)(k:Oc)(r:o.nl=true->o.ops=[])(v:DS w o [.str w.a.pa]=some (.tup [.agg (Ik s),.bool x,.bool false],k,none)):U1 w o []=some (.tup [],k,none):=by
 refine Bt r ⟨Qq rfl,λh=>((FL v).2.1 rfl),λl h=>Xd,λi m fr t q n f n0=>?_⟩;have p:=Wt.start q n;unfold TA;have g:=AY q.1;unfold Ik at *;simp only[↓C2,Ih,Ii,IU,simprocAttr,g,AR Tb 135];refine AC p v (λM j c2=>?_);simp only[↓C2,Ie,simprocAttr];exact j.put.put.end0 q.2.2
def yY(w:Wb)(o:Oc)(s:Sc)(x:Bool)(y:Oc)(ol:Option (List Nat))(r:o.nl=true->o.ops=[])(v:DS w o [.str w.a.pa]=some (.tup [.agg (Ik s),.bool x,.bool true],o,none))(b:w.a.op=10)(e:WT w o [.str w.a.pa,.agg (Ik s),.int .i64 w.a.cas,.str w.a.da]=some (.tup [],y,ol)):U1 w o []=some (.tup [],y,ol.map (·++[41])):=by
 refine Bt r ⟨Qq rfl,λh=>Da e h,λl h=>C9 e h,λi m fr t q n f n0=>?_⟩;have d:=Wt.start q n;unfold TA;have xx:=AY q.1;unfold Ik at *;simp only[↓C2,Ih,Ii,IU,simprocAttr,xx,AR Tb 135];refine AC d v (λM j c2=>?_);have xx:=AY j.at_.1;simp only[↓C2,Ie,simprocAttr,xx,n0,AR Tb 138,b];refine CY j.put.put e (λc u k d1 d2=>?_);simp only[↓C2,IM,simprocAttr];refine AF.intro (λp g=>Xm) ?_;simp only[↓C2,Ih,simprocAttr];exact d1.endc q.2.2
def aEi(w:Wb)(o:Oc)(s:Sc)(k:Oc)(ol:Option (List Nat))(d:o.nl=true->o.ops=[])(v:DS w o [.str w.a.pa]=some (.tup [.agg (Ik s),.bool false,.bool true],o,none))(la:w.a.op≠10)(r:w.a.op≠15)(y:PG w o [.int .i64 6]=some (.tup [],k,ol)):U1 w o []=some (.tup [],k,ol.map (·++[35])):=by
 refine Bt d ⟨Qq rfl,λh=>Da y h,λl h=>C9 y h,λi m fr t q n f n0=>?_⟩;have p:=Wt.start q n;unfold TA;have g:=AY q.1;unfold Ik at *;simp only[↓C2,Ih,Ii,IU,simprocAttr,g,AR Tb 135];refine AC p v (λM j c2=>?_);have g:=AY j.at_.1;simp only[↓C2,Ie,simprocAttr,g,n0,eq_false la,eq_false r,AR Tb 54];refine AC j.put.put y (λc d1 d2=>?_);simp only[↓C2,Ih,simprocAttr];exact d1.endc q.2.2
def zA(w:Wb)(o:Oc)(s:Sc)(k:Oc)(ol:Option (List Nat))(r:o.nl=true->o.ops=[])(v:DS w o [.str w.a.pa]=some (.tup [.agg (Ik s),.bool true,.bool true],o,none))(b:w.a.op=14)(e:gP w o [.agg (IL (.about s))]=some (.tup [],k,ol)):U1 w o []=some (.tup [],k,ol.map (·++[44])):=by
 refine Bt r ⟨Qq rfl,λh=>Da e h,λl h=>C9 e h,λi m fr t q n f n0=>?_⟩;have p:=Wt.start q n;unfold TA;have g:=AY q.1;unfold Ik at *;simp only[↓C2,Ih,Ii,IU,simprocAttr,g,AR Tb 135];refine AC p v (λM j c2=>?_);have g:=AY j.at_.1;simp only[↓C2,Ie,simprocAttr,g,n0,AR Tb 55,b];refine AC j.put.put e (λc d1 d2=>?_);simp only[↓C2,Ih,simprocAttr];exact d1.endc q.2.2
def yZ(w:Wb)(o:Oc)(s:Sc)(k:Oc)(ol:Option (List Nat))(r:o.nl=true->o.ops=[])(v:DS w o [.str w.a.pa]=some (.tup [.agg (Ik s),.bool true,.bool true],o,none))(z:w.a.op=16)(b:aIb w o [.agg (Ik s)]=some (.tup [],k,ol)):U1 w o []=some (.tup [],k,ol.map (·++[50])):=by
 refine Bt r ⟨Qq rfl,λh=>Da b h,λl h=>C9 b h,λi m fr t q n f n0=>?_⟩;have p:=Wt.start q n;unfold TA;have g:=AY q.1;unfold Ik at *;simp only[↓C2,Ih,Ii,IU,simprocAttr,g,AR Tb 135];refine AC p v (λM j c2=>?_);have g:=AY j.at_.1;simp only[↓C2,Ie,simprocAttr,g,n0,AR Tb 142,z];refine AC j.put.put b (λc d1 d2=>?_);simp only[↓C2,Ih,simprocAttr];exact d1.endc q.2.2
def nQ(w:Wb)(o:Oc)(s:Sc)(is:Bool)(y:Oc)(ol:Option (List Nat))(r:o.nl=true->o.ops=[])(v:DS w o [.str w.a.pa]=some (.tup [.agg (Ik s),.bool is,.bool true],o,none))(u:w.a.op=15)(q:Int)(b:Bool)(s2:Sc)(gnl:Bool)(gone:List Int)(e:Int)(ca:WR w o [.agg (Ik s2),.slice gnl [] (AE gone),.int .i64 e]=some (.tup [],y,ol))(c:zF w o [.str w.a.pa]=some (.agg [.int .i64 q,.bool b],o,none))(d:aJQ [.agg (Ik s),.agg [.int .i64 q,.bool b],.int .i64 w.a.n,.bool w.a.fl]=some (.tup [.agg (Ik s2),.slice gnl [] (AE gone),.int .i64 e])):U1 w o []=some (.tup [],y,ol.map (·++[62])):=by
 refine Bt r ⟨Qq rfl,λh=>Da ca h,λl h=>C9 ca h,λi m fr t x z f n0=>?_⟩;have hW:=Wt.start x z;unfold TA;have g:=AY x.1;unfold Ik at *;simp only[↓C2,Ih,Ii,IU,simprocAttr,g,AR Tb 135];refine AC hW v (λM c1 c2=>?_);have g:=AY c1.at_.1;simp only[↓C2,Ie,simprocAttr,g,n0,AR Tb 140,u];have a1:=aEa (((c1.put (q:=11) (p:=0) (ys:=[.int .i64 0,.bool false,.int .i64 0,.slice true [] []])).put (q:=11) (p:=0) (ys:=[.int .i64 s.mx,.bool s.cas,.int .i64 s.la,.slice s.nl [] (AU s.rs)])).at_.1);refine aQ8 c1.put.put.at_ c ?_;simp only[↓C2,Ie,simprocAttr,g,n0,Ac Tb 139,d];refine AF.intro ?_ ?_
 ·intro pp hpp l hl;simp only[Q0,Zq,or_false]at hpp
  rcases hpp with rfl|rfl|rfl|rfl|rfl|rfl|rfl|rfl|rfl|rfl|rfl
  ·exact EX hl
  ·exact EX hl
  ·exact EX hl
  ·exact EX hl
  ·exact EX hl
  ·have hl1:l.1=54::fr:=EE hl;refine⟨λh=>?_,λh=>EX h⟩;change l∈A4 (11::fr) 0 4 at h;have:=hl1.symm.trans (F9 h);simp at this
  ·have hl1:l.1=54::fr:=EE hl;refine⟨λh=>?_,λh=>EX h⟩;change l∈A4 i _ 1 at h;exact(n0 54).mp ((F9 h).symm.trans hl1)
  ·have hl1:l.1=54::fr:=EE hl;refine⟨λh=>?_,λh=>EX h⟩;rcases List.mem_append.1 h with h|h
   ·exact(n0 54).mp ((F9 h).symm.trans hl1)
   ·rw[a1]at h;rw[List.mem_singleton.1 h]at hl1;exact c1.loc 54 hl1
  ·have hl1:l.1=54::fr:=EE hl;refine⟨λh=>?_,λh=>EX h⟩;change l∈A4 i _ 1 at h;exact(n0 54).mp ((F9 h).symm.trans hl1)
  ·have hl1:l.1=54::fr:=EE hl;refine⟨λh=>?_,λh=>EX h⟩;change l∈A4 i _ 1 at h;exact(n0 54).mp ((F9 h).symm.trans hl1)
  ·have hl1:l.1=54::fr:=EE hl;exact⟨λh=>EX h,λh=>EX h⟩
 simp only[↓C2,Ie,simprocAttr,AR Tb 141];refine AC c1.put.put.put.put ca (λM2 d1 d2=>?_);simp only[↓C2,Ih,simprocAttr];exact d1.endc x.2.2
def nP(w:Wb)(o:Oc)(s:Sc)(y:Oc)(ol:Option (List Nat))(r:o.nl=true->o.ops=[])(v:DS w o [.str w.a.pa]=some (.tup [.agg (Ik s),.bool true,.bool true],o,none))(b:w.a.op=11)(d:Sc)(e:Int)(x:WR w o [.agg (Ik d),.slice true [] [],.int .i64 e]=some (.tup [],y,ol))(k:aJO [.agg (Ik s),.slice w.a.nln [] (AE w.a.ns)]=some (.tup [.agg (Ik d),.int .i64 e])):U1 w o []=some (.tup [],y,ol.map (·++[71])):=by
 refine Bt r ⟨Qq rfl,λh=>Da x h,λl h=>C9 x h,λi m fr t q n f n0=>?_⟩;have p:=Wt.start q n;unfold TA;have g:=AY q.1;unfold Ik at *;simp only[↓C2,Ih,Ii,IU,simprocAttr,g,AR Tb 135];refine AC p v (λM j c2=>?_);have g:=AY j.at_.1;simp only[↓C2,Ie,simprocAttr,g,n0,Ac Tb 143,k,b];refine bN ?_;simp only[↓C2,Ie,simprocAttr,AR Tb 141];refine AC j.put.put.put.put x (λc d1 d2=>?_);simp only[↓C2,Ih,simprocAttr];exact d1.endc q.2.2
def WN(w:Wb)(o:Oc)(s:Sc)(y:Oc)(ol:Option (List Nat))(r:o.nl=true->o.ops=[])(v:DS w o [.str w.a.pa]=some (.tup [.agg (Ik s),.bool true,.bool true],o,none))(b:w.a.op=12)(d:Sc)(e:Int)(x:WR w o [.agg (Ik d),.slice true [] [],.int .i64 e]=some (.tup [],y,ol))(k:aJM [.agg (Ik s),.slice w.a.nln [] (AE w.a.ns)]=some (.tup [.agg (Ik d),.int .i64 e])):U1 w o []=some (.tup [],y,ol.map (·++[78])):=by
 refine Bt r ⟨Qq rfl,λh=>Da x h,λl h=>C9 x h,λi m fr t q n f n0=>?_⟩;have p:=Wt.start q n;unfold TA;have g:=AY q.1;unfold Ik at *;simp only[↓C2,Ih,Ii,IU,simprocAttr,g,AR Tb 135];refine AC p v (λM j c2=>?_);have g:=AY j.at_.1;simp only[↓C2,Ie,simprocAttr,g,n0,Ac Tb 144,k,b];refine bN ?_;simp only[↓C2,Ie,simprocAttr,AR Tb 141];refine AC j.put.put.put.put x (λc d1 d2=>?_);simp only[↓C2,Ih,simprocAttr];exact d1.endc q.2.2
def gK(w:Wb)(o:Oc)(s:Sc)(y:Oc)(ol:Option (List Nat))(r:o.nl=true->o.ops=[])(v:DS w o [.str w.a.pa]=some (.tup [.agg (Ik s),.bool true,.bool true],o,none))(b:w.a.op=13)(d:Sc)(gnl:Bool)(gone:List Int)(e:Int)(x:WR w o [.agg (Ik d),.slice gnl [] (AE gone),.int .i64 e]=some (.tup [],y,ol))(k:aJK [.agg (Ik s),.slice w.a.nln [] (AE w.a.ns)]=some (.tup [.agg (Ik d),.slice gnl [] (AE gone),.int .i64 e])):U1 w o []=some (.tup [],y,ol.map (·++[81])):=by
 refine Bt r ⟨Qq rfl,λh=>Da x h,λl h=>C9 x h,λi m fr t q n f n0=>?_⟩;have p:=Wt.start q n;unfold TA;have g:=AY q.1;unfold Ik at *;simp only[↓C2,Ih,Ii,IU,simprocAttr,g,AR Tb 135];refine AC p v (λM j c2=>?_);have g:=AY j.at_.1;simp only[↓C2,Ie,simprocAttr,g,n0,Ac Tb 145,k,b];refine bN ?_;simp only[↓C2,Ie,simprocAttr,AR Tb 141];refine AC j.put.put.put.put x (λc d1 d2=>?_);simp only[↓C2,Ih,simprocAttr];exact d1.endc q.2.2
def IT:=AB [(135,wQ DS),(54,wQ PG),(136,Af Pe),(123,Af Gj),(137,Af PR),(133,wQ WU),(55,wQ gP),(138,wQ WT)]
def bO:Wb->Oc->List D->Option WY:=RW IT O_ [] 113
def bAB:(wQ bO).ok Qw 63:=D9 (Ai func63) (Aa aLT (Aa Tt (Aa aXr (Aa LP (Aa aLS (Aa aCs (Aa kX (Aa aLR Ad))))))))
def gN(w:Wb)(o:Oc)(s:Sc)(x:Bool)(k:Oc)(r:o.nl=true->o.ops=[])(v:DS w o [.str w.a.pa]=some (.tup [.agg (Ik s),.bool x,.bool false],k,none)):bO w o []=some (.tup [],k,none):=by
 refine Bt r ⟨Qq rfl,λh=>((FL v).2.1 rfl),λl h=>Xd,λi m fr t q n f n0=>?_⟩;have p:=Wt.start q n;unfold O_;have g:=AY q.1;unfold Ik at *;simp only[↓C2,Ih,Ii,IU,simprocAttr,g,AR IT 135];refine AC p v (λM j c2=>?_);simp only[↓C2,Ie,simprocAttr];exact j.put.put.end0 q.2.2
def gM(w:Wb)(o:Oc)(s:Sc)(k:Oc)(ol:Option (List Nat))(r:o.nl=true->o.ops=[])(v:DS w o [.str w.a.pa]=some (.tup [.agg (Ik s),.bool false,.bool true],o,none))(y:PG w o [.int .i64 6]=some (.tup [],k,ol)):bO w o []=some (.tup [],k,ol.map (·++[20])):=by
 refine Bt r ⟨Qq rfl,λh=>Da y h,λl h=>C9 y h,λi m fr t q n f n0=>?_⟩;have p:=Wt.start q n;unfold O_;have g:=AY q.1;unfold Ik at *;simp only[↓C2,Ih,Ii,IU,simprocAttr,g,AR IT 135];refine AC p v (λM j c2=>?_);have g:=AY j.at_.1;simp only[↓C2,Ie,simprocAttr,AR IT 54];refine AC j.put.put y (λc d1 d2=>?_);simp only[↓C2,Ih,simprocAttr];exact d1.endc q.2.2
def zC(w:Wb)(o:Oc)(s:Sc)(k:Oc)(ol:Option (List Nat))(d:o.nl=true->o.ops=[])(v:DS w o [.str w.a.pa]=some (.tup [.agg (Ik s),.bool true,.bool true],o,none))(u:w.a.op=9)(nn e:Int)(r c:Bool)(b:Pe [.agg (Ik s),.int .i64 (w.a.n)]=some (.tup [.agg [.int .i64 nn,.bool r,.bool c],.int .i64 e]))(x:e≠0)(y:PG w o [.int .i64 e]=some (.tup [],k,ol)):bO w o []=some (.tup [],k,ol.map (·++[44])):=by
 refine Bt d ⟨Qq rfl,λh=>Da y h,λl h=>C9 y h,λi m fr t q z f n0=>?_⟩;have p:=Wt.start q z;unfold O_;have g:=AY q.1;unfold Ik at *;simp only[↓C2,Ih,Ii,IU,simprocAttr,g,AR IT 135];refine AC p v (λM j c2=>?_);have g:=AY j.at_.1;simp only[↓C2,Ie,simprocAttr,g,n0,Ac IT 136,b,eq_false x,AR IT 54,u];refine AC j.put.put.put.put y (λM2 d1 d2=>?_);simp only[↓C2,Ih,simprocAttr];exact d1.endc q.2.2
def zB(w:Wb)(o:Oc)(s:Sc)(o2:Oc)(ol:Option (List Nat))(ho:o.nl=true->o.ops=[])(v:DS w o [.str w.a.pa]=some (.tup [.agg (Ik s),.bool true,.bool true],o,none))(u:w.a.op=9)(nn:Int)(r rb:Bool)(b:Pe [.agg (Ik s),.int .i64 (w.a.n)]=some (.tup [.agg [.int .i64 nn,.bool r,.bool rb],.int .i64 0]))(c f:Bs)(d:Bool)(y:Gj [.int .u8 2,.str w.a.pa,.int .i64 nn]=some (.str c))(x:PR [.agg (IQ w.k),.str c]=some (.tup [.str f,.bool d,.bool false]))(e:WU w o [.str c,.bool false]=some (.tup [],o2,ol)):bO w o []=some (.tup [],o2,ol.map (·++[69])):=by
 refine Bt ho ⟨Qq rfl,λh=>Da e h,λl h=>C9 e h,λi m fr t q z sa n0=>?_⟩;have hW:=Wt.start q z;unfold O_;have xx:=AY q.1;unfold Ik at *;unfold IQ at x;simp only[↓C2,Ih,Ii,IU,simprocAttr,xx,AR IT 135];refine AC hW v (λM j c2=>?_);have xx:=AY j.at_.1;simp only[↓C2,Ie,simprocAttr,xx,n0,Ac IT 136,b,Ac IT 123,y,u];refine AF.intro (λp g=>Xm) ?_;simp only[↓C2,Ie,simprocAttr,xx,n0,Ac IT 137,x,AR IT 133];refine AC j.put.put.put.put e (λM2 d1 d2=>?_);simp only[↓C2,Ih,simprocAttr];exact d1.endc q.2.2
def gL(w:Wb)(o:Oc)(s:Sc)(o2:Oc)(ol:Option (List Nat))(d:o.nl=true->o.ops=[])(v:DS w o [.str w.a.pa]=some (.tup [.agg (Ik s),.bool true,.bool true],o,none))(u:w.a.op=9)(nn:Int)(r rb:Bool)(b:Pe [.agg (Ik s),.int .i64 (w.a.n)]=some (.tup [.agg [.int .i64 nn,.bool r,.bool rb],.int .i64 0]))(c f:Bs)(y:Gj [.int .u8 2,.str w.a.pa,.int .i64 nn]=some (.str c))(x:PR [.agg (IQ w.k),.str c]=some (.tup [.str f,.bool true,.bool true]))(e:gP w o [.agg (IL (.found nn f))]=some (.tup [],o2,ol)):bO w o []=some (.tup [],o2,ol.map (·++[81])):=by
 refine Bt d ⟨Qq rfl,λh=>Da e h,λl h=>C9 e h,λi m fr t q z sa n0=>?_⟩;have hW:=Wt.start q z;unfold O_;have xx:=AY q.1;unfold Ik at *;unfold IQ at x;simp only[↓C2,Ih,Ii,IU,simprocAttr,xx,AR IT 135];refine AC hW v (λM j c2=>?_);have xx:=AY j.at_.1;simp only[↓C2,Ie,simprocAttr,xx,n0,Ac IT 136,b,Ac IT 123,y,u];refine AF.intro (λp g=>Xm) ?_;simp only[↓C2,Ie,simprocAttr,xx,n0,Ac IT 137,x,AR IT 55,u];refine AC j.put.put.put.put e (λM2 d1 d2=>?_);simp only[↓C2,Ih,simprocAttr];exact d1.endc q.2.2
def WO(w:Wb)(o:Oc)(s:Sc)(o2:Oc)(ol:Option (List Nat))(d:o.nl=true->o.ops=[])(v:DS w o [.str w.a.pa]=some (.tup [.agg (Ik s),.bool true,.bool true],o,none))(u:w.a.op=9)(nn:Int)(r rb:Bool)(b:Pe [.agg (Ik s),.int .i64 (w.a.n)]=some (.tup [.agg [.int .i64 nn,.bool r,.bool rb],.int .i64 0]))(c f:Bs)(y:Gj [.int .u8 2,.str w.a.pa,.int .i64 nn]=some (.str c))(x:PR [.agg (IQ w.k),.str c]=some (.tup [.str f,.bool false,.bool true]))(e:gP w o [.agg (IL (.found nn []))]=some (.tup [],o2,ol)):bO w o []=some (.tup [],o2,ol.map (·++[82])):=by
 refine Bt d ⟨Qq rfl,λh=>Da e h,λl h=>C9 e h,λi m fr t q z sa n0=>?_⟩;have hW:=Wt.start q z;unfold O_;have xx:=AY q.1;unfold Ik at *;unfold IQ at x;simp only[↓C2,Ih,Ii,IU,simprocAttr,xx,AR IT 135];refine AC hW v (λM j c2=>?_);have xx:=AY j.at_.1;simp only[↓C2,Ie,simprocAttr,xx,n0,Ac IT 136,b,Ac IT 123,y,u];refine AF.intro (λp g=>Xm) ?_;simp only[↓C2,Ie,simprocAttr,xx,n0,Ac IT 137,x,AR IT 55,u];refine AC j.put.put.put.put e (λM2 d1 d2=>?_);simp only[↓C2,Ih,simprocAttr];exact d1.endc q.2.2
def nS(w:Wb)(o:Oc)(s:Sc)(k:Oc)(ol:Option (List Nat))(d:o.nl=true->o.ops=[])(v:DS w o [.str w.a.pa]=some (.tup [.agg (Ik s),.bool true,.bool true],o,none))(z:w.a.op=18)(nn e:Int)(r c:Bool)(b:Pe [.agg (Ik s),.int .i64 (0)]=some (.tup [.agg [.int .i64 nn,.bool r,.bool c],.int .i64 e]))(x:e≠0)(y:PG w o [.int .i64 e]=some (.tup [],k,ol)):bO w o []=some (.tup [],k,ol.map (·++[45])):=by
 refine Bt d ⟨Qq rfl,λh=>Da y h,λl h=>C9 y h,λi m fr t q n f n0=>?_⟩;have p:=Wt.start q n;unfold O_;have g:=AY q.1;unfold Ik at *;simp only[↓C2,Ih,Ii,IU,simprocAttr,g,AR IT 135];refine AC p v (λM j c2=>?_);have g:=AY j.at_.1;simp only[↓C2,Ie,simprocAttr,g,n0,Ac IT 136,b,eq_false x,AR IT 54,z];refine AC j.put.put.put.put y (λu d1 d2=>?_);simp only[↓C2,Ih,simprocAttr];exact d1.endc q.2.2
def nR(w:Wb)(o:Oc)(s:Sc)(o2:Oc)(ol:Option (List Nat))(u:o.nl=true->o.ops=[])(v:DS w o [.str w.a.pa]=some (.tup [.agg (Ik s),.bool true,.bool true],o,none))(z:w.a.op=18)(nn:Int)(r rb:Bool)(b:Pe [.agg (Ik s),.int .i64 (0)]=some (.tup [.agg [.int .i64 nn,.bool r,.bool rb],.int .i64 0]))(c f:Bs)(d:Bool)(y:Gj [.int .u8 2,.str w.a.pa,.int .i64 nn]=some (.str c))(x:PR [.agg (IQ w.k),.str c]=some (.tup [.str f,.bool d,.bool false]))(e:WU w o [.str c,.bool false]=some (.tup [],o2,ol)):bO w o []=some (.tup [],o2,ol.map (·++[70])):=by
 refine Bt u ⟨Qq rfl,λh=>Da e h,λl h=>C9 e h,λi m fr t q n sa n0=>?_⟩;have hW:=Wt.start q n;unfold O_;have xx:=AY q.1;unfold Ik at *;unfold IQ at x;simp only[↓C2,Ih,Ii,IU,simprocAttr,xx,AR IT 135];refine AC hW v (λM j c2=>?_);have xx:=AY j.at_.1;simp only[↓C2,Ie,simprocAttr,xx,n0,Ac IT 136,b,Ac IT 123,y,z];refine AF.intro (λp g=>Xm) ?_;simp only[↓C2,Ie,simprocAttr,xx,n0,Ac IT 137,x,AR IT 133];refine AC j.put.put.put.put e (λM2 d1 d2=>?_);simp only[↓C2,Ih,simprocAttr];exact d1.endc q.2.2
def O7(w:Wb)(o:Oc)(s:Sc)(o2:Oc)(ho:o.nl=true->o.ops=[])(v:DS w o [.str w.a.pa]=some (.tup [.agg (Ik s),.bool true,.bool true],o,none))(z:w.a.op=18)(nn:Int)(r rb:Bool)(b:Pe [.agg (Ik s),.int .i64 (0)]=some (.tup [.agg [.int .i64 nn,.bool r,.bool rb],.int .i64 0]))(c f:Bs)(y:Gj [.int .u8 2,.str w.a.pa,.int .i64 nn]=some (.str c))(x:PR [.agg (IQ w.k),.str c]=some (.tup [.str f,.bool true,.bool true]))(s2:Sc)(u:Bool)(d:DS w o [.str w.a.ot]=some (.tup [.agg (Ik s2),.bool u,.bool false],o2,none)):bO w o []=some (.tup [],o2,none):=by
 refine Bt ho ⟨Qq rfl,λh=>((FL d).2.1 rfl),λl h=>Xd,λi m fr t q n sa n0=>?_⟩;have hW:=Wt.start q n;unfold O_;have e:=AY q.1;unfold Ik at *;unfold IQ at x;simp only[↓C2,Ih,Ii,IU,simprocAttr,e,AR IT 135];refine AC hW v (λM j c2=>?_);have e:=AY j.at_.1;simp only[↓C2,Ie,simprocAttr,e,n0,Ac IT 136,b,Ac IT 123,y,z];refine AF.intro (λp g=>Xm) ?_;simp only[↓C2,Ie,simprocAttr,e,n0,Ac IT 137,x,AR IT 135,z];refine AC j.put.put.put.put d (λM2 d1 d2=>?_);have e:=AY d1.at_.1;simp only[↓C2,Ie,simprocAttr];exact d1.put.put.end0 q.2.2
def gO(w:Wb)(o:Oc)(s:Sc)(o2:Oc)(ol:Option (List Nat))(ho:o.nl=true->o.ops=[])(v:DS w o [.str w.a.pa]=some (.tup [.agg (Ik s),.bool true,.bool true],o,none))(z:w.a.op=18)(nn:Int)(r rb:Bool)(b:Pe [.agg (Ik s),.int .i64 (0)]=some (.tup [.agg [.int .i64 nn,.bool r,.bool rb],.int .i64 0]))(c f:Bs)(y:Gj [.int .u8 2,.str w.a.pa,.int .i64 nn]=some (.str c))(x:PR [.agg (IQ w.k),.str c]=some (.tup [.str f,.bool true,.bool true]))(s2:Sc)(ka:Bool)(d:DS w o [.str w.a.ot]=some (.tup [.agg (Ik s2),.bool ka,.bool true],o,none))(e:WT w o [.str w.a.ot,.agg (Ik s2),.int .i64 (-1),.str f]=some (.tup [],o2,ol)):bO w o []=some (.tup [],o2,ol.map (·++[101])):=by
 refine Bt ho ⟨Qq rfl,λh=>Da e h,λl h=>C9 e h,λi m fr t q n sa n0=>?_⟩;have hW:=Wt.start q n;unfold O_;have xx:=AY q.1;unfold Ik at *;unfold IQ at x;simp only[↓C2,Ih,Ii,IU,simprocAttr,xx,AR IT 135];refine AC hW v (λM j c2=>?_);have xx:=AY j.at_.1;simp only[↓C2,Ie,simprocAttr,xx,n0,Ac IT 136,b,Ac IT 123,y,z];refine AF.intro (λp g=>Xm) ?_;simp only[↓C2,Ie,simprocAttr,xx,n0,Ac IT 137,x,AR IT 135,z];refine AC j.put.put.put.put d (λM2 d1 d2=>?_);have xx:=AY d1.at_.1;simp only[↓C2,Ie,simprocAttr,xx,n0,AR IT 138];refine CY d1.put.put e (λM3 u hu e1 e2=>?_);simp only[↓C2,IM,simprocAttr];refine AF.intro (λp g=>Xm) ?_;simp only[↓C2,Ih,simprocAttr];exact e1.endc q.2.2
def On(w:Wb)(o:Oc)(s:Sc)(o2:Oc)(ho:o.nl=true->o.ops=[])(v:DS w o [.str w.a.pa]=some (.tup [.agg (Ik s),.bool true,.bool true],o,none))(z:w.a.op=18)(nn:Int)(r rb:Bool)(b:Pe [.agg (Ik s),.int .i64 (0)]=some (.tup [.agg [.int .i64 nn,.bool r,.bool rb],.int .i64 0]))(c f:Bs)(y:Gj [.int .u8 2,.str w.a.pa,.int .i64 nn]=some (.str c))(x:PR [.agg (IQ w.k),.str c]=some (.tup [.str f,.bool false,.bool true]))(s2:Sc)(u:Bool)(d:DS w o [.str w.a.ot]=some (.tup [.agg (Ik s2),.bool u,.bool false],o2,none)):bO w o []=some (.tup [],o2,none):=by
 refine Bt ho ⟨Qq rfl,λh=>((FL d).2.1 rfl),λl h=>Xd,λi m fr t q n sa n0=>?_⟩;have hW:=Wt.start q n;unfold O_;have e:=AY q.1;unfold Ik at *;unfold IQ at x;simp only[↓C2,Ih,Ii,IU,simprocAttr,e,AR IT 135];refine AC hW v (λM j c2=>?_);have e:=AY j.at_.1;simp only[↓C2,Ie,simprocAttr,e,n0,Ac IT 136,b,Ac IT 123,y,z];refine AF.intro (λp g=>Xm) ?_;simp only[↓C2,Ie,simprocAttr,e,n0,Ac IT 137,x,AR IT 135,z];refine AC j.put.put.put.put d (λM2 d1 d2=>?_);have e:=AY d1.at_.1;simp only[↓C2,Ie,simprocAttr];exact d1.put.put.end0 q.2.2
def WP(w:Wb)(o:Oc)(s:Sc)(o2:Oc)(ol:Option (List Nat))(ho:o.nl=true->o.ops=[])(v:DS w o [.str w.a.pa]=some (.tup [.agg (Ik s),.bool true,.bool true],o,none))(z:w.a.op=18)(nn:Int)(r rb:Bool)(b:Pe [.agg (Ik s),.int .i64 (0)]=some (.tup [.agg [.int .i64 nn,.bool r,.bool rb],.int .i64 0]))(c f:Bs)(y:Gj [.int .u8 2,.str w.a.pa,.int .i64 nn]=some (.str c))(x:PR [.agg (IQ w.k),.str c]=some (.tup [.str f,.bool false,.bool true]))(s2:Sc)(ka:Bool)(d:DS w o [.str w.a.ot]=some (.tup [.agg (Ik s2),.bool ka,.bool true],o,none))(e:WT w o [.str w.a.ot,.agg (Ik s2),.int .i64 (-1),.str []]=some (.tup [],o2,ol)):bO w o []=some (.tup [],o2,ol.map (·++[102])):=by
 refine Bt ho ⟨Qq rfl,λh=>Da e h,λl h=>C9 e h,λi m fr t q n sa n0=>?_⟩;have hW:=Wt.start q n;unfold O_;have xx:=AY q.1;unfold Ik at *;unfold IQ at x;simp only[↓C2,Ih,Ii,IU,simprocAttr,xx,AR IT 135];refine AC hW v (λM j c2=>?_);have xx:=AY j.at_.1;simp only[↓C2,Ie,simprocAttr,xx,n0,Ac IT 136,b,Ac IT 123,y,z];refine AF.intro (λp g=>Xm) ?_;simp only[↓C2,Ie,simprocAttr,xx,n0,Ac IT 137,x,AR IT 135,z];refine AC j.put.put.put.put d (λM2 d1 d2=>?_);have xx:=AY d1.at_.1;simp only[↓C2,Ie,simprocAttr,xx,n0,AR IT 138];refine CY d1.put.put e (λM3 u hu e1 e2=>?_);simp only[↓C2,IM,simprocAttr];refine AF.intro (λp g=>Xm) ?_;simp only[↓C2,Ih,simprocAttr];exact e1.endc q.2.2
def aNP:=y0 f230 [] []
def aO6:=y0 f125 [] []
end Go.Vd
namespace Go.Proofs
open Go.Shelf
def aO:Go.Shelf.Ren:=⟨λ|105=>124|212=>224|99=>225|165=>226|166=>227|170=>228|169=>229|263=>321|264=>322|206=>323|240=>324|241=>325|276=>370|277=>371|n=>n,λ|9=>9|3=>3|4=>4|20=>20|0=>0|46=>137|109=>318|5=>5|72=>322|76=>326|51=>392|146=>398|53=>394|148=>400|70=>320|37=>264|75=>325|127=>402|164=>439|80=>216|n=>n,λ|n=>n⟩
def bE:Go.Proofs.Lays.n105 Qw aO:={
 mixed:=Xa
 f99:=func225.trans (congrArg some Xa)
 f105:=func124.trans (congrArg some Xa)
 f165:=func226.trans (congrArg some Xa)
 f166:=func227.trans (congrArg some Xa)
 f169:=func229.trans (congrArg some Xa)
 f170:=func228.trans (congrArg some Xa)
 f206:=func323.trans (congrArg some Xa)
 f212:=func224.trans (congrArg some Xa)
 f240:=func324.trans (congrArg some Xa)
 f241:=func325.trans (congrArg some Xa)
 f263:=func321.trans (congrArg some Xa)
 f264:=func322.trans (congrArg some Xa)
 f276:=func370.trans (congrArg some Xa)
 f277:=func371.trans (congrArg some Xa)
 t0:=underlying0
 a0:=isAgg0
 z0:=sizeOf0
 v0:=zeroValue0
 t3:=underlying3
 a3:=isAgg3
 z3:=sizeOf3
 v3:=zeroValue3
 t4:=underlying4
 a4:=isAgg4
 z4:=sizeOf4
 v4:=zeroValue4
 t5:=underlying5
 a5:=isAgg5
 z5:=sizeOf5
 v5:=zeroValue5
 t9:=underlying9
 a9:=isAgg9
 z9:=sizeOf9
 v9:=zeroValue9
 t20:=underlying20
 a20:=isAgg20
 z20:=sizeOf20
 v20:=zeroValue20
 t37:=underlying264
 a37:=isAgg264
 z37:=sizeOf264
 v37:=zeroValue264
 t46:=underlying137
 a46:=isAgg137
 z46:=sizeOf137
 v46:=zeroValue137
 t51:=underlying392
 a51:=isAgg392
 z51:=sizeOf392
 v51:=zeroValue392
 t53:=underlying394
 a53:=isAgg394
 z53:=sizeOf394
 v53:=zeroValue394
 t70:=underlying320
 a70:=isAgg320
 z70:=sizeOf320
 v70:=zeroValue320
 t72:=underlying322
 a72:=isAgg322
 z72:=sizeOf322
 v72:=zeroValue322
 t75:=underlying325
 a75:=isAgg325
 z75:=sizeOf325
 v75:=zeroValue325
 t76:=underlying326
 a76:=isAgg326
 z76:=sizeOf326
 v76:=zeroValue326
 t109:=underlying318
 a109:=isAgg318
 z109:=sizeOf318
 v109:=zeroValue318
 t127:=underlying402
 a127:=isAgg402
 z127:=sizeOf402
 v127:=zeroValue402
 t146:=underlying398
 a146:=isAgg398
 z146:=sizeOf398
 v146:=zeroValue398
 t148:=underlying400
 a148:=isAgg400
 z148:=sizeOf400
 v148:=zeroValue400
 t164:=underlying439
 a164:=isAgg439
 z164:=sizeOf439
 v164:=zeroValue439}
def aR:Builder.Extra Qw aO:={
 sizeBuilder:=Xa
 liesBuilder:=Xa
 t5:=underlying5
 a5:=isAgg5
 z5:=sizeOf5
 v5:=zeroValue5
 infoByte:=Xa
 cellsByte:=Xa
 sizeByte:=Xa
 neB5:=Z}
end Go.Proofs
namespace Go.Vd
open Go.Proofs Go.RowKit
def vS(t:Int):Bool:=decide (1<=t∧t<=6)
def PN(t:Int):Int:=if vS t=true then 1+t*16 else 0
def bBq:=AB []
def aSO:=RF bBq aNP [.t 2] 9
def aW1:Kq aSO 230:=Az (Ai func230) Ad
def aJj(t:Int):aSO [.int .i64 t]=some (.bool (vS t)):=by
 refine Aq (Qq rfl) ?_;unfold aNP;unfold vS;by_cases c:1<=t
 ·have c':((1:Int)<=t)=True:=eq_true c;simp only[↓C2,Il,simprocAttr,c']
  all_goals exact Qi
 ·have c':((1:Int)<=t)=False:=eq_false c;simp only[↓C2,Il,simprocAttr,c']
  all_goals exact Qi
def aRZ:=AB [(230,Af aSO)]
def aS1:=RF aRZ aO6 [.t 2] 9
def aXv:Kq aS1 125:=Az (Ai func125) (Aa aW1 Ad)
def aJW(t:Int):aS1 [.int .i64 t]=some (.int .i64 (PN t)):=by
 refine Aq (Qq rfl) ?_;unfold aO6;have a:=aJj t;unfold PN;cases c:vS t with
 |false=>
  rw[c]at a;simp only[↓C2,Il,simprocAttr,Ac aRZ 230,a]
  all_goals exact Qi
 |true=>
  have i:1<=t∧t<=6:=by simpa[vS]using c
  have v:IntKind.i64.wrap (t*16)=t*16:=Iz O O;have z:IntKind.i64.wrap (1+t*16)=1+t*16:=Iz O O;rw[c]at a;simp only[↓C2,Il,simprocAttr,Ac aRZ 230,a,v,z]
  all_goals exact Qi
def RP:List D->Option D
 |[.str s,.int .i64 c]=>if 0<=c∧c<=1000000∧s.length*c.toNat<=1000000 then some (.str (Lib.repeatL s c.toNat))else none
 |_=>none
def aXw:Kq RP 124:=Vt ⟨_,func124,Xa,Xa⟩ λds r h=>by
 unfold RP at h;split at h
 ·rename_i s c;split at h
  ·rename_i k;simp only[QP]at h;subst h;refine⟨λd l=>?_,_,λw g=> .str _,λw=>?_⟩
   ·simp only[Q0,Zf,or_false]at l;rcases l with rfl|rfl<;>rfl
   ·have m:=Go.Proofs.Any.strings_Repeat bE aR ⟨s.toArray⟩ c.toNat w O (by show s.toArray.size*_<=_;simp only[List.size_toArray];omega);rw[QY k.1]at m;refine m.mono ?_;rintro e n ⟨rfl,i⟩;exact⟨rfl,i⟩
  ·cases h
 ·cases h
def aZk{s:Bs}{c:Int}(h:0<=c∧c<=1000000∧s.length*c.toNat<=1000000):RP [.str s,.int .i64 c]=some (.str (Lib.repeatL s c.toNat)):=if_pos h
def aT1(o:Oc)(j:Int):Oc:={({o with vw:={o.vw with te:=j+1}}:Oc).op 1 (AO 5 [] 0) (Lib.repeatL [0] (PN (j+1)).toNat)with rep:=IY .done}
def S57:=AB [(54,wQ PG),(123,Af Gj),(125,Af aS1),(124,Af RP),(122,wQ O8),(56,wQ W56)]
def W57:Wb->Oc->List D->Option WY:=RW S57 aRj [] 34
def bAH:(wQ W57).ok Qw 57:=D9 (Ai func57) (Aa Tt (Aa LP (Aa aXv (Aa aXw (Aa N5 (Aa kW Ad))))))
def aEr(w:Wb)(o:Oc)(k:Oc)(ol:Option (List Nat))(r:o.nl=true->o.ops=[])(d:6<=w.v.te)(y:PG w o [.int .i64 19]=some (.tup [],k,ol)):W57 w o []=some (.tup [],k,ol.map (·++[7])):=by
 refine Bt r ⟨Qq rfl,λh=>Da y h,λl h=>C9 y h,λi m fr t q n f n0=>?_⟩;have p:=Wt.start q n;unfold aRj;have g:=AY q.1;simp only[↓C2,Ih,Ii,IU,simprocAttr,g,eq_true d,AR S57 54];refine AC p y (λM j c2=>?_);simp only[↓C2,Ih,simprocAttr];exact j.endc q.2.2
def aRG(w:Wb)(o:Oc)(te:Int)(r:iR o)(g:¬6<=w.v.te)(z:o.vw.te=te)(j:0<=te∧te<=5):W57 w o []=some (.tup [],aT1 o te,some ([11,28])):=by
 refine Bt (λ_=>r.ops) ⟨Qq rfl,λh=>Xd,λl h=>XH,λi m fr t x n f n0=>?_⟩;have hW:=Wt.start x n;unfold aRj;have xx:=AY x.1;have hw:IntKind.i64.wrap (te+1)=te+1:=Iz O O;have y:=DG 5 0 [] U;have a:=aJW (te+1);have q:0<=PN (te+1)∧PN (te+1)<=1000:=by unfold PN;split<;>omega
 have b:=aZk (s:=[0]) (c:=PN (te+1)) ⟨q.1,O,YS⟩;have e:=Eu w {o with vw:={o.vw with te:=te+1}} 1 (AO 5 [] 0) (Lib.repeatL [0] (PN (te+1)).toNat) (λ_=>r.ops) (by simp only[r.ops];simp);have ya:=L6 w (({o with vw:={o.vw with te:=te+1}}:Oc).op 1 (AO 5 [] 0) (Lib.repeatL [0] (PN (te+1)).toNat)) (λh=>Xd);have k:=hW.cellp (p:=26) (ys:=[.int .i64 (te+1)]) (o':={o with vw:={o.vw with te:=te+1}}) (Qq rfl) rfl rfl rfl;simp only[↓C2,Ie,simprocAttr,xx,eq_false g,hw,Ac S57 123,y,Ac S57 125,a,Ac S57 124,b,AR S57 122,z];refine CY k e (λM u hu c1 c2=>?_);simp only[↓C2,IM,simprocAttr];refine AF.intro ?_ ?_
 ·intro pp d l q;simp only[Q0,Zq,or_false]at d;subst d;exact EX q
 simp only[↓C2,Ih,Ii,simprocAttr,AR S57 56];refine AC c1 ya (λM2 d1 d2=>?_);simp only[↓C2,Ih,simprocAttr];exact d1.endl (l:=[11,28]) U
def aDB:=y0 f127 [] []
def aBz{P:Program}{f:FuncId}{A B:List D->Option D}(p:(Af A).ok P f)(d:(Af B).ok P f):(Af λds=>(A ds).or (B ds)).ok P f:=by
 refine⟨p.1,λds m m' fr _=>rfl,?_⟩;intro a w0 w m g fr ds vs r u hi b z t y;have h:(Af A).ex ds m fr=some (r,u)∨(Af B).ex ds m fr=some (r,u):=by
  simp only[Af]at y ⊢;split at y
  ·rename_i k;simp only[k,if_true];cases ha:A (ds.map D.un)with
   |none=>rw[ha]at y;exact .inr y
   |some x=>rw[ha]at y;exact .inl y
  ·cases y
 rcases h with h|h
 ·obtain⟨_,_,o⟩:=p;exact o hi b z t h
 ·obtain⟨_,_,o⟩:=d;exact o hi b z t h
def growZ:IS where
 rd:=λ_ _=>[]
 ex:=λds _ _=>match ds with
  |[.slice true _ [],.int .i64 0]=>some (.slice true [] [],[])
  |_=>none
def aAw(w:World):Calls Qw 207 #[.slice none 0 0,.int .i64 0] w λe n=>e= .returned (.slice none 0 0)∧n=w:=by
 go_enter func207,ntmps207
 go_wp2
 all_goals go_ret
 all_goals exact⟨rfl,rfl⟩
def bAo:growZ.ok Qw 207:=by
 refine⟨⟨_,func207,Xa,Xa⟩,λds m m' fr _=>rfl,?_⟩;intro B w0 w m g fr ds vs r u hi o z f y;simp only[growZ]at y;split at y
 ·simp only[QP,Zr]at y;obtain⟨rfl,rfl⟩:=y
  match vs,z with
  |[v0,v1],_=>
   have q:=f 0 _ v0 rfl rfl;have na:=(f 1 _ v1 rfl rfl).int_inv;subst na;have v:v0= .slice none 0 0:=by
    rcases q.slice_inv with ⟨_,_,e⟩|⟨h,_⟩
    ·exact e
    ·cases h
   subst v;refine(aAw w).mono ?_;rintro ev n ⟨rfl,l⟩;subst l;have j:=Below.refl n.heap.size n;exact⟨_,g.over n n,rfl,hi.over j,IF.over hi.gz j,.nils _,λi k _=>k⟩
 ·cases y
def aPx:=AB [(207,growZ)]
def aES:=RF aPx (Hu 9 124 3 32 207) [.t 2] 36
def aQY:Kq aES 106:=Az aC1 (Aa bAo Ad)
def aCQ{m:Ig}{fr:Id}:growZ.ex [.slice true [] [],.int .i64 0] m fr=some (.slice true [] [],[]):=rfl
def aER{t:Id}:aES [.slice false [] [.slice false [] [],.slice false [] []]]=some (.slice true [] []):=by
 refine Aq (Qq rfl) ?_;have a:aPx 207=some growZ:=rfl;have w0:IntKind.i64.wrap 0=0:=rfl;have v:IntKind.i64.wrap 1=1:=rfl;have z:IntKind.i64.wrap 2=2:=rfl;have y0:((0:Nat):Int)=0:=rfl;have y1:((1:Nat):Int)=1:=rfl;have y2:((2:Nat):Int)=2:=rfl;have p:(0:Int)+1=1:=rfl;have x:(1:Int)+1=2:=rfl;unfold Hu;simp only[↓C2,Ih,IU,simprocAttr,QD,QA];refine Ae (NA.eq_1 _) ?_;simp only[↓C2,Il,simprocAttr,y0,w0,v,p,ZS,QD,QA];refine Ae (NA.eq_1 _) ?_;simp only[↓C2,Il,simprocAttr,y0,w0,z,x,ZW,QD,QA];refine Ae (NA.eq_1 _) ?_;simp only[↓C2,Il,simprocAttr,AN a,aCQ,QD,QA];refine Ae (Nz.eq_1 _ _ _) ?_;simp only[↓C2,Il,simprocAttr,v,p,ZS,QD,QA];refine Ae (Nz.eq_1 _ _ _) ?_;simp only[↓C2,Il,simprocAttr,z,x,ZW,QD,QA];refine Ae (Nz.eq_1 _ _ _) ?_;simp only[↓C2,Il,simprocAttr]
 all_goals exact Qj
def NR(l:List Mt)(p:Bs):List Mt:=l.take (Bh l p).toNat++l.drop ((Bh l p).toNat+1)
def iK:List D->Option D:=λds=>(PI ds).or (aES ds)
def aQZ:Kq iK 106:=aBz (aVE aLm) aQY
def aFs{a b:List Mt}(h:a.length+b.length<=1000):iK [.slice false [] [.slice false [] (Ar a),.slice false [] (Ar b)]]=some (.slice (decide (a++b=[])) [] (Ar (a++b))):=by
 by_cases c:a++b=[]
 ·obtain⟨rfl,rfl⟩:=ZA.1 c;unfold iK;rw[show Ar []=[]from rfl,aER (t:=[])];rfl
 ·grind [PI,Ar,Ga,Au,qO,iK]
def aIn:=AB [(103,Af aFv),(106,Af iK)]
def zV:=RF aIn aDB [.cell (some 1) 4,.t 5] 25
def aXu:Kq zV 127:=Az (Ai func127) (Aa aBN (Aa aQZ Ad))
def aJV(nl:Bool)(l:List Mt)(p:Bs)(w:l.length<=1000)(k:Bh l p<0):zV [.agg [.slice nl [] (Ar l)],.str p]=some (.tup [.agg [.slice nl [] (Ar l)],.int .i64 14]):=by
 refine Aq (Qq rfl) ?_;unfold aDB;have y:=RZ (nl:=nl) (t:=[]) (l:=l) (p:=p) O;simp only[↓C2,Ie,simprocAttr,Ac aIn 103,y,eq_true k]
 all_goals exact Qi
def aEQ(nl:Bool)(l:List Mt)(p:Bs)(w:l.length<=1000)(f:nl=true->l=[])(k:¬Bh l p<0)(hi:(Bh l p).toNat<l.length):zV [.agg [.slice nl [] (Ar l)],.str p]=some (.tup [.agg [.slice (decide (NR l p=[])) [] (Ar (NR l p))],.int .i64 0]):=by
 refine Aq (Qq rfl) ?_;unfold aDB;have y:=RZ (nl:=nl) (t:=[]) (l:=l) (p:=p) O;have ta:nl=false:=by
  grind
 subst ta;unfold NR;generalize Bh l p=q at *;have s:(0:Int)<=q:=O
 have e1:((q.toNat:Nat):Int)=q:=QY s;have h:IntKind.i64.wrap (q+1)=q+1:=Iz O O;have e2:(q+1).toNat=q.toNat+1:=O
 have c:=aFs (a:=l.take q.toNat) (b:=l.drop (q.toNat+1)) Yb;have u:aE (Ar l) 3=3:=Xq
 have o:q.toNat<=l.length:=O
 have m:q.toNat+1<=l.length:=O
 have v:(q<=(l.length:Int))=True:=eq_true O;have d:(q+1<=(l.length:Int))=True:=eq_true O;have i:(0:Int)<=q+1:=O
 have r:ZX q.toNat (Ar l)=Ar (l.take q.toNat):=(List.map_take ..).symm;have j:Z0 (q.toNat+1) (Ar l)=Ar (l.drop (q.toNat+1)):=(List.map_drop ..).symm;have z:ZX (l.length-(q.toNat+1)) (Ar (l.drop (q.toNat+1)))=Ar (l.drop (q.toNat+1)):=QH (by rw[Au,ZO];omega);simp only[↓C2,Ie,simprocAttr,Ac aIn 103,y,eq_false k,h,Au,s,e2,u,i,v,d,QR,r,j,z,QZ,Ac aIn 106,c];refine AF.intro (λp g=>Xm) ?_;simp only[↓C2,Ie,simprocAttr]
 all_goals exact Qi
def CQ(a:Ak):(It a)[0]?=some (.int .u8 a.op):=rfl
def PE(a:Ak):(It a)[1]?=some (.str a.tk):=rfl
def Dx(a:Ak):(It a)[2]?=some (.str a.pa):=rfl
def GL(a:Ak):(It a)[3]?=some (.str a.ot):=rfl
def WM(a:Ak):(It a)[10]?=some (.str a.key):=rfl
def CK(v:Vw):(Iq v)[0]?=some (.bool v.se):=rfl
def Pi(v:Vw):(Iq v)[1]?=some (.int .i64 v.te):=rfl
def Dn(v:Vw):(Iq v)[2]?=some (.str v.key):=rfl
def Gl(v:Vw):(Iq v)[3]?=some (.slice v.nlm [] (Ar v.ms)):=rfl
def OL{m:Ig}{v:Vw}{a:Ak}:Ah ((m.put [0] 0 (Iq v)).put [1] 0 (It a)) [0] 0 5=some (Iq v):=by
 grind [AT,AX,A9]
def Gi{m:Ig}{a:Ak}:Ah (m.put [1] 0 (It a)) [1] 0 11=some (It a):=AX (AQ a)
def aQd{m:Ig}{x:List D}{n:Nat}:Ah (m.put [14] 0 x) [0] 0 n=Ah m [0] 0 n:=AT Z
open Classical in
def aKF{nl:Bool}{l:List Mt}{p:Bs}(w:l.length<=1000000):aFo [.agg [.slice nl [] (Ar l)],.str p]=some (.tup (if Bh l p<0 then [I0 ([],0,false),.int .i64 14]else [I0 (AZ l (Bh l p).toNat),.int .i64 0])):=by
 have h:Ar l=Ar (Cb (Ar l))∧(Ar l).length<=1000000:=XM
 show(if _ then _ else _)=_;rw[if_pos h,Bj]
open Classical in
def aKE{v:Vw}{p:Bs}(w:v.ms.length<=1000000):aFn [IJ v,.str p]=some (.bool (decide (Bd v.ms p≠-1))):=by
 have h:Ar v.ms=Ar (Cb (Ar v.ms))∧(Ar v.ms).length<=1000000:=XM
 show(if _ then _ else _)=_;rw[if_pos h,Bj]
def GS(v:Vw)(a:Ak):Bool:=decide (a.op<=8)||(((decide (a.op=17)&&decide (0<=Bh v.ms a.pa))||decide (Bd v.ms a.pa≠-1))&&(decide (a.op≠18)||decide (Bd v.ms a.ot≠-1)))
def F70:List D->Option D:=FX HX (λp=>IG p.1) (λp=> .bool (GS p.1 p.2))
def aS5{v:Vw}{a:Ak}(h:IG v):F70 [IJ v,IB a]=some (.bool (GS v a)):=Bl (mk:=HX) (a:=(v,a)) N1 h
def aZT:Kq F70 70:=by
 obtain⟨S,s,w⟩:=A7 (Aa aLq (Aa aVl (Aa aVk Ad)));have g:=w 156 _ rfl;have i:=w 158 _ rfl;have m:=w 159 _ rfl;clear w;refine Bo s (Ai func70:Fn Qw 70 44 aX8 [.t 4]) (λ_=>by simp[HX]) (λp r=>?_);obtain⟨v,a⟩:=p;simp only at r;have sa:=r.ml;have f:aFp [.int .u8 a.op]=some (.bool (decide (a.op<=8))):=rfl;have b:=aKF (nl:=v.nlm) (l:=v.ms) (p:=a.pa) O;have k:∀q,aFn [.agg (Iq v),.str q]=some (.bool (decide (Bd v.ms q≠-1))):=λq=>aKE O
 have h:=k a.pa;have j:=k a.ot;unfold aX8 HX IJ IB GS;simp only;by_cases y:a.op<=8
 ·rw[decide_eq_true y]at f;simp only[↓C2,Ij,simprocAttr,CQ,CK,AL,A9,AA,AQ,Qu,ne_eq,QF,Ag,Qz,QE,Qu,and_self,Qo,Qp,y,Ab g,f]
 ·rw[decide_eq_false y]at f;generalize decide (Bd v.ms a.pa≠-1)=o at h ⊢;generalize decide (Bd v.ms a.ot≠-1)=b2 at j ⊢;generalize Bh v.ms a.pa=fi at b ⊢;clear k;by_cases u:a.op=17
  ·have d:(a.op=17)=True:=eq_true u;have c:(a.op=18)=False:=eq_false O;clear u;by_cases hf:fi<0
   ·have n:¬0<=fi:=by omega
    rw[if_pos hf]at b;cases o<;>simp only[↓C2,Is,simprocAttr,CQ,Dx,GL,CK,Dn,Gl,Mj,aQd,AX,OL,Cl,Cf,AL,A9,AA,AQ,ne_eq,QF,QN,QT,QU,Ag,Qx,Qo,Qt,Qp,y,n,d,c,Ab g,f,Ab i,b,Ab m,h,I0]
   ·have n:0<=fi:=by omega
    rw[if_neg hf]at b;generalize AZ v.ms fi.toNat=z at b;simp only[↓C2,Is,simprocAttr,CQ,Dx,GL,CK,Dn,Gl,Mj,AX,AL,A9,AA,AQ,ne_eq,QF,QT,Ag,Qx,Qo,Qt,Qp,y,n,d,c,Ab g,f,Ab i,b,I0]
  ·have d:(a.op=17)=False:=eq_false u;obtain⟨z,e,x⟩:∃(z:Mt)(e:Int),aFo [.agg [.slice v.nlm [] (Ar v.ms)],.str a.pa]=some (.tup [I0 z,.int .i64 e]):=by
    grind
   clear b;by_cases la:a.op=18
   ·have c:(a.op=18)=True:=eq_true la;clear la u;cases o<;>cases b2<;>simp only[↓C2,Is,simprocAttr,CQ,Dx,GL,CK,Dn,Gl,Mj,aQd,AX,OL,Cl,Cf,AL,A9,AA,AQ,ne_eq,QC,QN,QT,QU,Ag,Qx,Qo,Qt,and_false,Qp,y,d,c,Ab g,f,Ab i,x,Ab m,h,j,I0]
   ·have c:(a.op=18)=False:=eq_false la;clear la u;cases o<;>simp only[↓C2,Is,simprocAttr,CQ,Dx,GL,CK,Dn,Gl,Mj,aQd,AX,OL,Cl,Cf,AL,A9,AA,AQ,ne_eq,QC,QF,QN,QT,Ag,Qx,Qo,Qt,Qp,y,d,c,Ab g,f,Ab i,x,Ab m,h,I0]
def HV(v:Vw)(a:Ak):Int:=if Cc a≠0 then Cc a else if a.op=1 then 0 else if a.op=2 then(if v.se=false then 9 else if a.key≠v.key then 11 else 0)else if v.se=true then 12 else if Pq v a=false then 13 else if GS v a=false then 14 else 0
def F25:List D->Option D:=FX HX (λp=>IG p.1∧ID p.2) (λp=> .int .i64 (HV p.1 p.2))
def NI{v:Vw}{a:Ak}(h:IG v)(q:ID a):F25 [IJ v,IB a]=some (.int .i64 (HV v a)):=Bl (mk:=HX) (a:=(v,a)) N1 ⟨h,q⟩
def aU0:Kq F25 25:=by
 obtain⟨S,s,w⟩:=A7 (Aa aZV (Aa aZU (Aa aZT Ad)));have c:=w 68 _ rfl;have g:=w 69 _ rfl;have h:=w 70 _ rfl;clear w;refine Bo s (Ai func25:Fn Qw 25 52 aYD [.t 4]) (λ_=>by simp[HX]) (λp m=>?_);obtain⟨v,a⟩:=p;obtain⟨r,x⟩:=m;simp only at r x;have b:F68 [.agg (It a)]=some (.int .i64 (Cc a)):=aE0 x;have d:F69 [.agg (Iq v),.agg (It a)]=some (.bool (Pq v a)):=aS6 r;have f:F70 [.agg (Iq v),.agg (It a)]=some (.bool (GS v a)):=aS5 r;unfold aYD HX IJ IB HV;simp only;generalize Cc a=e at b ⊢;generalize Pq v a=l at d ⊢;generalize GS v a=k at f ⊢;by_cases j:e=0
 ·subst j;by_cases u:a.op=1
  ·have z:(a.op=1)=True:=eq_true u;clear u;simp only[↓C2,Ij,simprocAttr,CQ,CK,Gi,AL,A9,Bp,Bq,AA,AQ,Qu,ne_eq,Ag,Qz,QE,Qu,and_self,Qo,Qp,z,Ab c,b]
  ·have z:(a.op=1)=False:=eq_false u;by_cases q:a.op=2
   ·have y:(a.op=2)=True:=eq_true q;clear u q;cases hse:v.se with
    |false=>
     simp only[↓C2,Ij,simprocAttr,CQ,CK,Gi,AL,A9,Bp,Bq,AA,AQ,Qu,ne_eq,Ag,Qz,QE,Qu,and_self,Qo,Qt,Qp,z,y,hse,Ab c,b]
    |true=>
     by_cases i:a.key=v.key
     ·have n:(a.key=v.key)=True:=eq_true i;have o:(a.key==v.key)=true:=by rw[i];simp
      clear i;simp only[↓C2,Ij,simprocAttr,CQ,Dx,WM,CK,Dn,Gi,AL,A9,Bp,Bq,AA,AQ,Qu,ne_eq,Ag,Qz,QE,Qu,and_self,Qo,Qt,and_false,Qp,z,y,hse,n,Ab c,b]
     ·have n:(a.key=v.key)=False:=eq_false i;have o:(a.key==v.key)=false:=by simpa using i
      clear i;simp only[↓C2,Ij,simprocAttr,CQ,Dx,WM,CK,Dn,Gi,AL,A9,Bp,Bq,AA,AQ,Qu,ne_eq,Ag,Qz,QE,Qu,and_self,Qo,Qt,and_false,Qp,z,y,hse,n,Ab c,b]
   ·have y:(a.op=2)=False:=eq_false q;clear u q;cases hse:v.se with
    |true=>
     simp only[↓C2,Ij,simprocAttr,CQ,CK,Gi,AL,A9,Bp,Bq,AA,AQ,Qu,ne_eq,Ag,Qz,QE,Qu,and_self,Qo,Qt,Qp,z,y,hse,Ab c,b]
    |false=>
     cases l with
     |false=>
      simp only[↓C2,Ij,simprocAttr,CQ,CK,Gi,OL,Cl,Cf,AL,A9,Bp,Bq,AA,AQ,Qu,ne_eq,Ag,Qz,QE,Qu,and_self,Qo,Qt,Qp,z,y,hse,Ab c,b,Ab g,d]
     |true=>
      cases k<;>simp only[↓C2,Ij,simprocAttr,CQ,CK,Gi,OL,Cl,Cf,AL,A9,Bp,Bq,AA,AQ,Qu,ne_eq,Ag,Qz,QE,Qu,and_self,Qo,Qt,Qp,z,y,hse,Ab c,b,Ab g,d,Ab h,f]
 ·simp only[↓C2,Ij,simprocAttr,Gi,AL,Bp,Bq,AA,Qu,ne_eq,Qu,and_self,j,Ab c,b]
open Classical in
def W2{nl:Bool}{l:List Mt}{p:Bs}(w:l.length<=1000000)(g:∀m∈l,m.1.length<=1000000)(h:p.length<=1000000):F73 [.slice nl [] (Ar l),.str p]=some (.int .i64 (Bd l p)):=by
 have h:Ar l=Ar (Cb (Ar l))∧(Ar l).length<=1000000∧(∀m∈Cb (Ar l),m.1.length<=1000000)∧p.length<=1000000:=by rw[Bj,Au];exact⟨rfl,w,g,h⟩
 show(if _ then _ else _)=_;rw[if_pos h,Bj]
def pW(v:Vw)(a:Ak):Bool:=D7 v.ks a.tk (atA a) (Es a.op)&&(decide (a.op≠18)||D7 v.ks a.tk a.ot 2)
def Nj(v:Vw)(a:Ak):Bool:=(decide (0<=Bd v.ms a.pa)||(decide (a.op=17)&&decide (0<=Bh v.ms a.pa)))&&(decide (a.op≠18)||decide (0<=Bd v.ms a.ot))
def Ff(v:Vw)(a:Ak):Int:=if Cc a≠0 then Cc a else if a.op=1 then 0 else if a.op=2 then(if v.se=false then 9 else if a.key≠v.key then 11 else 0)else if v.se=true then 12 else if pW v a=false then 13 else if a.op<=8 then 0 else if Nj v a=false then 14 else 0
def F26:List D->Option D:=FX HX (λp=>IG p.1∧ID p.2) (λp=> .int .i64 (Ff p.1 p.2))
def Pg{v:Vw}{a:Ak}(h:IG v)(q:ID a):F26 [IJ v,IB a]=some (.int .i64 (Ff v a)):=Bl (mk:=HX) (a:=(v,a)) N1 ⟨h,q⟩
def aZ3:Kq F26 26:=by
 obtain⟨S,hS,hl⟩:=A7 (Aa aZS (Aa aZ2 (Aa aZR (Aa aQm (Aa aQl Ad)))));have j:=hl 71 _ rfl;have o:=hl 28 _ rfl;have r:=hl 72 _ rfl;have u:=hl 73 _ rfl;have x:=hl 74 _ rfl;clear hl;refine Bo hS (Ai func26:Fn Qw 26 87 aYC [.t 4]) (λ_=>by simp[HX]) (λp hp=>?_);obtain⟨v,a⟩:=p;obtain⟨hv,ha⟩:=hp;simp only at hv ha;have hu:=oW ha.op0 ha.op;have sa:=hv.ml;have z:∀m∈v.ms,m.1.length<=1000000:=λm hm=>ZJ (hv.mp m hm) O
 have ia:=ha.pa;have xa:=ha.ot;have i:F68 [.agg (It a)]=some (.int .i64 (Cc a)):=aE0 ha;have ca:F28 [.int .i64 a.op]=some (.int .u8 (Es a.op)):=rfl;have y:∀q,q.length<=1000000->F72 [.agg (Iq v),.str a.tk,.str q,.int .u8 (Es a.op)]=some (.bool (D7 v.ks a.tk q (Es a.op))):=λq hq=>aEZ hv (fO _) hq
 have k:F72 [.agg (Iq v),.str a.tk,.str a.ot,.int .u8 2]=some (.bool (D7 v.ks a.tk a.ot 2)):=aEZ hv O O;have h:=W2 (nl:=v.nlm) (l:=v.ms) (p:=a.pa) O z O;have w:=W2 (nl:=v.nlm) (l:=v.ms) (p:=a.ot) O z O;have ga:=W0 (nl:=v.nlm) (t:=[]) (l:=v.ms) (p:=a.pa) O;unfold aYC HX IJ IB Ff pW Nj atA;simp only;generalize Cc a=e at i ⊢;generalize D7 v.ks a.tk a.ot 2=b2 at k ⊢;generalize Bd v.ms a.pa=r1 at h ⊢;generalize Bd v.ms a.ot=r2 at w ⊢;generalize Bh v.ms a.pa=f at ga ⊢;by_cases he:e=0
 ·subst he;by_cases h1:a.op=1
  ·have aa:(a.op=1)=True:=eq_true h1;clear h1;simp only[↓C2,Ij,simprocAttr,hu,CQ,CK,Gi,AL,A9,Bp,Bq,AA,AQ,ne_eq,Ag,Qz,QE,Qu,and_self,Qo,Qp,aa,Ab j,i]
  ·have aa:(a.op=1)=False:=eq_false h1;by_cases h2:a.op=2
   ·have ba:(a.op=2)=True:=eq_true h2;clear h1 h2;cases hse:v.se with
    |false=>simp only[↓C2,Ij,simprocAttr,hu,CQ,CK,Gi,AL,A9,Bp,Bq,AA,AQ,ne_eq,Ag,Qz,QE,Qu,and_self,Qo,Qt,Qp,aa,ba,hse,Ab j,i]
    |true=>
     by_cases hk:a.key=v.key
     ·have ea:(a.key=v.key)=True:=eq_true hk;have ja:(a.key==v.key)=true:=by rw[hk];simp
      clear hk;simp only[↓C2,Ij,simprocAttr,hu,CQ,Dx,WM,CK,Dn,Gi,AL,A9,Bp,Bq,AA,AQ,ne_eq,Ag,Qz,QE,Qu,and_self,Qo,Qt,and_false,Qp,aa,ba,hse,ea,Ab j,i]
     ·have ea:(a.key=v.key)=False:=eq_false hk;have ja:(a.key==v.key)=false:=by simpa using hk
      clear hk;simp only[↓C2,Ij,simprocAttr,hu,CQ,Dx,WM,CK,Dn,Gi,AL,A9,Bp,Bq,AA,AQ,ne_eq,Ag,Qz,QE,Qu,and_self,Qo,Qt,and_false,Qp,aa,ba,hse,ea,Ab j,i]
   ·have ba:(a.op=2)=False:=eq_false h2;cases hse:v.se with
    |true=>
     simp only[↓C2,Ij,simprocAttr,hu,CQ,CK,Gi,AL,A9,Bp,Bq,AA,AQ,ne_eq,Ag,Qz,QE,Qu,and_self,Qo,Qt,Qp,aa,ba,hse,Ab j,i]
    |false=>
     by_cases h8:a.op<=8
     ·have da:(a.op<=8)=True:=eq_true h8;have c:(a.op=18)=False:=eq_false O;clear h1 h2 h8;have hh:=y jB Z;simp only[da,if_true];generalize D7 v.ks a.tk jB (Es a.op)=b at hh ⊢;unfold jB at hh;cases b<;>simp only[↓C2,Ij,simprocAttr,hu,CQ,PE,Dx,CK,Pi,Dn,Gi,OL,Cl,Cf,AL,A9,Bp,Bq,AA,AQ,ne_eq,Ag,Qz,QE,Qu,and_self,Qo,Qt,Qp,aa,ba,hse,Ab j,i,Ab o,ca,Ab r,da,c,hh]<;>refine Al ?_<;>simp only[↓C2,Ij,simprocAttr,QF,and_self,aa,ba,da,c]
     ·have da:(a.op<=8)=False:=eq_false h8;have hh:=y a.pa O;simp only[da,if_false];generalize D7 v.ks a.tk a.pa (Es a.op)=b at hh ⊢;by_cases la:a.op=18
      ·have c:(a.op=18)=True:=eq_true la;have d:(a.op=17)=False:=eq_false O;clear h1 h2 h8 la;by_cases na:r1<0
       ·have g:¬0<=r1:=by omega
        cases b<;>cases b2<;>simp only[↓C2,Ij,simprocAttr,hu,CQ,PE,Dx,GL,CK,Pi,Dn,Gl,Gi,OL,Cl,Cf,AL,A9,Bp,Bq,AA,AQ,ne_eq,Ag,Qz,QE,Qu,and_self,Qo,Qt,Qp,aa,ba,hse,Ab j,i,Ab o,ca,Ab r,k,da,c,hh]<;>refine Al ?_<;>simp only[↓C2,Ij,simprocAttr,Dx,GL,Dn,Gl,A9,AQ,QC,QN,QT,QU,Ag,Qz,QE,Qu,and_self,Qo,Qt,Qp,aa,ba,Ab u,h,da,c,d,na,g]
       ·have g:0<=r1:=by omega
        by_cases wa:r2<0
        ·have s:¬0<=r2:=by omega
         cases b<;>cases b2<;>simp only[↓C2,Ij,simprocAttr,hu,CQ,PE,Dx,GL,CK,Pi,Dn,Gl,Gi,OL,Cl,Cf,AL,A9,Bp,Bq,AA,AQ,ne_eq,Ag,Qz,QE,Qu,and_self,Qo,Qt,Qp,aa,ba,hse,Ab j,i,Ab o,ca,Ab r,k,da,c,hh]<;>refine Al ?_<;>simp only[↓C2,Ij,simprocAttr,Dx,GL,Dn,Gl,A9,AQ,QC,QF,QN,QT,QU,Ag,Qz,QE,Qu,and_self,Qo,Qt,Qp,aa,ba,Ab u,h,w,da,c,d,na,g,wa,s]
        ·have s:0<=r2:=by omega
         cases b<;>cases b2<;>simp only[↓C2,Ij,simprocAttr,hu,CQ,PE,Dx,GL,CK,Pi,Dn,Gl,Gi,OL,Cl,Cf,AL,A9,Bp,Bq,AA,AQ,ne_eq,Ag,Qz,QE,Qu,and_self,Qo,Qt,Qp,aa,ba,hse,Ab j,i,Ab o,ca,Ab r,k,da,c,hh]<;>refine Al ?_<;>simp only[↓C2,Ij,simprocAttr,Dx,GL,Dn,Gl,A9,AQ,QC,QF,QN,QT,QU,Ag,Qz,QE,Qu,and_self,Qo,Qt,Qp,aa,ba,Ab u,h,w,da,c,d,na,g,wa,s]
      ·have c:(a.op=18)=False:=eq_false la;by_cases na:r1<0
       ·have g:¬0<=r1:=by omega
        by_cases ka:a.op=17
        ·have d:(a.op=17)=True:=eq_true ka;clear h1 h2 h8 la ka;by_cases hf:f<0
         ·have n:¬0<=f:=by omega
          cases b<;>simp only[↓C2,Ij,simprocAttr,hu,CQ,PE,Dx,CK,Pi,Dn,Gi,OL,Cl,Cf,AL,A9,Bp,Bq,AA,AQ,ne_eq,Ag,Qz,QE,Qu,and_self,Qo,Qt,Qp,aa,ba,hse,Ab j,i,Ab o,ca,Ab r,da,c,hh]<;>refine Al ?_<;>simp only[↓C2,Ij,simprocAttr,Dx,GL,Dn,Gl,A9,AQ,QF,QN,QU,Ag,Qz,QE,Qu,and_self,Qo,Qt,Qp,aa,ba,Ab u,h,Ab x,ga,da,c,d,na,g,hf,n]
         ·have n:0<=f:=by omega
          cases b<;>simp only[↓C2,Ij,simprocAttr,hu,CQ,PE,Dx,CK,Pi,Dn,Gi,OL,Cl,Cf,AL,A9,Bp,Bq,AA,AQ,ne_eq,Ag,Qz,QE,Qu,and_self,Qo,Qt,Qp,aa,ba,hse,Ab j,i,Ab o,ca,Ab r,da,c,hh]<;>refine Al ?_<;>simp only[↓C2,Ij,simprocAttr,Dx,GL,Dn,Gl,A9,AQ,QF,QT,Ag,Qz,QE,Qu,and_self,Qo,Qt,Qp,aa,ba,Ab u,h,Ab x,ga,da,c,d,na,g,hf,n]
        ·have d:(a.op=17)=False:=eq_false ka;clear h1 h2 h8 la ka;cases b<;>simp only[↓C2,Ij,simprocAttr,hu,CQ,PE,Dx,CK,Pi,Dn,Gi,OL,Cl,Cf,AL,A9,Bp,Bq,AA,AQ,ne_eq,Ag,Qz,QE,Qu,and_self,Qo,Qt,Qp,aa,ba,hse,Ab j,i,Ab o,ca,Ab r,da,c,hh]<;>refine Al ?_<;>simp only[↓C2,Ij,simprocAttr,Dx,GL,Dn,Gl,A9,AQ,QC,QF,QN,Ag,Qz,QE,Qu,and_self,Qo,Qt,Qp,aa,ba,Ab u,h,da,c,d,na,g]
       ·have g:0<=r1:=by omega
        clear h1 h2 h8 la;cases b<;>simp only[↓C2,Ij,simprocAttr,hu,CQ,PE,Dx,CK,Pi,Dn,Gi,OL,Cl,Cf,AL,A9,Bp,Bq,AA,AQ,ne_eq,Ag,Qz,QE,Qu,and_self,Qo,Qt,Qp,aa,ba,hse,Ab j,i,Ab o,ca,Ab r,da,c,hh]<;>refine Al ?_<;>simp only[↓C2,Ij,simprocAttr,Dx,GL,Dn,Gl,A9,AQ,QF,Ag,Qz,QE,Qu,and_self,Qo,Qt,Qp,aa,ba,Ab u,h,da,c,na,g]
 ·simp only[↓C2,Ij,simprocAttr,hu,CQ,CK,Gi,AL,A9,Bp,Bq,AA,AQ,ne_eq,Ag,Qz,QE,Qu,and_self,Qo,Qp,he,Ab j,i]
def V6:=y1 f43 4 [] []
def aYq:=y0 f43 [] [(4,V6)]
def WD:=y1 f15 4 [] []
def aYK:=y0 f15 [] [(4,WD)]
def aYJ:=y0 f16 [] []
def V2:=y1 f53 3 [] []
def aYg:=y0 f53 [] [(3,V2)]
def aYi:=y0 f51 [(1,[(6,1),(6,3)])] []
def aYn:=y0 f46 [] []
def aYH:=y0 f18 [(1,[(20,1),(20,3),(20,5),(20,7),(20,9),(20,11),(20,13),(20,15),(20,17),(20,22)])] []
def Wy:=y1 f17 4 [(6,[(6,0)])] []
def Wx:=y1 f17 10 [(12,[(6,0)])] []
def aYI:=y0 f17 [(15,[(16,9),(16,12)])] [(4,Wy),(10,Wx)]
def nG(r:Rl):Bool:=decide (100<r.1.length)
def LC(l:List Rl):Bool:=decide (8<l.length)||l.any nG
def Nk(p:Bool×List Rl):List D:=[.slice p.1 [] (Aj p.2)]
def Sn(x y:Bool×List Rl)(e:Nk x=Nk y):x=y:=by
 grind [Nk,Ls]
def NW(b:Bool):D:= .int .i64 (if b=true then 1 else 0)
def F44:List D->Option D:=FX Nk (λ_=>True) (λp=>NW (LC p.2))
def aE4{nl:Bool}{l:List Rl}:F44 [.slice nl [] (Aj l)]=some (NW (LC l)):=Bl (mk:=Nk) (a:=(nl,l)) Sn trivial
def aQF{S:Ic}{l:List Rl}{nl:Bool}{Q:Ex->St->Prop}(i:l.length<=8)
  (c:∀z,l.any nG=true->z.s 2= .int .i64 1->Q .ret z) (e:∀z,l.any nG=false->Q (.exit 0) z):
  ∀(f j:Nat) z g,l.length=j+f->(l.take j).any nG=false->z.s 0= .slice nl [] (Aj l)->z.s 3= .int .i64 (j:Int)->A2 S [] V4 Q z g:=by
 intro f;induction f with
 |zero=>
  intro j z g k q r o;refine Ae V4.eq_1 ?_;have:¬((j:Int)<l.length):=O
  simp only[↓C2,Ih,Ii,simprocAttr,r,o,this,Aw];rw[QH O]at q;exact e _ q
 |succ f ih=>
  intro j z g k q r o;refine Ae V4.eq_1 ?_;have y:j<l.length:=O
  have v:((j:Int)<l.length):=O
  have a:=nJ (j:=j);have h:=wJ (j:=j) O;have d:(Aj l)[j]?=some (.agg [.str l[j].1,.int .u8 l[j].2]):=by simp[Aj,Qs y,iM]
  have na:l.take (j+1)=l.take j++[l[j]]:=by rw[QX,Qs y];rfl
  have n:l[j]∈l:=QQ y;generalize l[j]=x at d na n;obtain⟨ja,t,b⟩:=z;simp only at r o;by_cases p:100<x.1.length
  ·have u:(100:Int)<(x.1.length:Int):=by omega
   simp only[↓C2,Iw,Ii,simprocAttr,r,o,v,a,Qv,d,Aw,u,Qz,QR,QV];refine c _ ?_ rfl;rw[Za];exact⟨x,n,by simp[nG,p]⟩
  ·have u:¬(100:Int)<(x.1.length:Int):=by omega
   simp only[↓C2,Iw,Ii,simprocAttr,r,o,v,a,h,Qv,d,Aw,u,Qz,QR,QV];refine ih (j+1) _ _ O ?_ r rfl;rw[na,Zs,q];simp[nG,p]
def aUj:Kq F44 44:=by
 refine Bo (S:=λ_=>none) AI (Ai func44:Fn Qw 44 20 aYp [.t 2]) (λ_=>by simp[Nk]) (λp _=>?_);obtain⟨nl,l⟩:=p;unfold aYp LC Nk;simp only;by_cases y:8<l.length
 ·have f:(8:Int)<(l.length:Int):=by omega
  simp only[↓C2,Ij,simprocAttr,f,Aw];exact⟨by simp[NW,y],rfl⟩
 ·have f:¬(8:Int)<(l.length:Int):=by omega
  simp only[↓C2,Ih,Ii,simprocAttr,f,Aw];refine aQF (l:=l) (nl:=nl) O (λz u q=>?_) (λz u=>?_) l.length 0 _ _ O U rfl rfl
  ·simp only[↓C2,Ih,IM,u,q,QT]
   all_goals exact Qj
  ·simp only[↓C2,Ij,reduceIte,Qr,u,y,QN]
   all_goals exact Qj
def yU(k:Tk):Bool:=decide (40<k.1.length)||decide (40<k.2.1.length)||LC k.2.2.2
def Up(l:List Tk):Bool:=decide (12<l.length)||l.any yU
def kL(p:Bool×List Tk):List D:=[.slice p.1 [] (Ay p.2)]
def aB3(x y:Bool×List Tk)(e:kL x=kL y):x=y:=by
 grind [kL,Hg]
def F43:List D->Option D:=FX kL (λ_=>True) (λp=>NW (Up p.2))
def aTa{nl:Bool}{l:List Tk}:F43 [.slice nl [] (Ay l)]=some (NW (Up l)):=Bl (mk:=kL) (a:=(nl,l)) aB3 trivial
def EJ:NW true= .int .i64 1:=rfl
def Nh:NW false= .int .i64 0:=rfl
def aQG{S:Ic}{l:List Tk}{nl:Bool}{Q:Ex->St->Prop}(c:S 44=some (Af F44))(i:l.length<=12)
  (ma:∀z,l.any yU=true->z.s 2= .int .i64 1->Q .ret z) (e:∀z,l.any yU=false->Q (.exit 0) z):
  ∀(f j:Nat) z g,l.length=j+f->(l.take j).any yU=false->z.s 0= .slice nl [] (Ay l)->z.s 3= .int .i64 (j:Int)->A2 S [] V6 Q z g:=by
 intro f;induction f with
 |zero=>
  intro j z g k q r o;refine Ae V6.eq_1 ?_;have:¬((j:Int)<l.length):=O
  simp only[↓C2,Ih,Ii,simprocAttr,r,o,this,AH];rw[QH O]at q;exact e _ q
 |succ f ih=>
  intro j z g k q r o;refine Ae V6.eq_1 ?_;have y:j<l.length:=O
  have v:((j:Int)<l.length):=O
  have qa:=nJ (j:=j);have hw:=wJ (j:=j) O;have w:(Ay l)[j]?=some (.agg [.str l[j].1,.str l[j].2.1,.slice l[j].2.2.1 [] (Aj l[j].2.2.2)]):=by simp[Ay,Qs y,I2]
  have na:l.take (j+1)=l.take j++[l[j]]:=by rw[QX,Qs y];rfl
  have n:l[j]∈l:=QQ y;generalize l[j]=x at w na n;obtain⟨x1,x2,x3,x4⟩:=x;simp only at w;have h:(yU (x1,x2,x3,x4))=(decide (40<x1.length)||decide (40<x2.length)||LC x4):=rfl;have d:=aE4 (nl:=x3) (l:=x4);generalize LC x4=b at d h;obtain⟨ja,t,fa⟩:=z;simp only at r o;by_cases p:40<x1.length
  ·have u:(40:Int)<(x1.length:Int):=by omega
   simp only[↓C2,Iw,Ii,simprocAttr,r,o,v,qa,Qv,w,AH,Qz,QR,QV,u];refine ma _ ?_ rfl;rw[Za];exact⟨_,n,by rw[h,decide_eq_true p];rfl⟩
  ·have u:¬(40:Int)<(x1.length:Int):=by omega
   by_cases m:40<x2.length
   ·have a:(40:Int)<(x2.length:Int):=by omega
    simp only[↓C2,Iw,Ii,simprocAttr,r,o,v,qa,Qv,w,AH,Qz,QR,QW,QV,u,a];refine ma _ ?_ rfl;rw[Za];exact⟨_,n,by rw[h,decide_eq_true m];simp⟩
   ·have a:¬(40:Int)<(x2.length:Int):=by omega
    cases b with
    |true=>
     simp only[↓C2,Iw,Ii,simprocAttr,r,o,v,qa,Qv,w,AH,Ab c,d,EJ,Qz,QR,QW,QV,u,a];refine ma _ ?_ rfl;rw[Za];exact⟨_,n,by rw[h];simp⟩
    |false=>
     simp only[↓C2,Iw,Ii,simprocAttr,r,o,v,qa,hw,Qv,w,AH,Ab c,d,Nh,Qz,QR,QW,QV,u,a];refine ih (j+1) _ _ O ?_ r rfl;rw[na,Zs,q,ZU,h,decide_eq_false p,decide_eq_false m];rfl
def aZZ:Kq F43 43:=by
 obtain⟨S,v,w⟩:=A7 (Aa aUj Ad);have c:=w 44 _ rfl;clear w;refine Bo v (Ai func43:Fn Qw 43 38 aYq [.t 2]) (λ_=>by simp[kL]) (λp _=>?_);obtain⟨nl,l⟩:=p;unfold aYq Up kL;simp only;by_cases y:12<l.length
 ·have f:(12:Int)<(l.length:Int):=by omega
  simp only[↓C2,Ij,simprocAttr,f,AH];exact⟨by simp[NW,y],rfl⟩
 ·have f:¬(12:Int)<(l.length:Int):=by omega
  simp only[↓C2,Ih,Ii,simprocAttr,f,AH];refine aQG (l:=l) (nl:=nl) c O (λz u q=>?_) (λz u=>?_) l.length 0 _ _ O U rfl rfl
  ·simp only[↓C2,Ih,IM,u,q,QT]
   all_goals exact Qj
  ·simp only[↓C2,Ij,reduceIte,Qr,u,y,QN]
   all_goals exact Qj
def nH(m:Mt):Bool:=decide (200<m.1.length)
def Sj(v:Vw):Bool:=decide (40<v.key.length)||decide (8<v.ms.length)||Up v.ks||v.ms.any nH
def mkV(v:Vw):List D:=[IJ v]
def qR(x y:Vw)(e:mkV x=mkV y):x=y:=by
 grind [mkV,Mc]
def F15:List D->Option D:=FX mkV (λ_=>True) (λv=>NW (Sj v))
def aTm{v:Vw}:F15 [IJ v]=some (NW (Sj v)):=Bl (mk:=mkV) (a:=v) qR trivial
def vwP{m:Ig}{v:Vw}{k:Nat}{d:D}(l:(Iq v)[k]?=some d):(m.put [0] 0 (Iq v)) [0] k=some d:=by
 grind [Ag]
def aQH{S:Ic}{v:Vw}{Q:Ex->St->Prop}(i:v.ms.length<=8)
  (h:∀z,v.ms.any nH=true->z.s 2= .int .i64 1->Q .ret z) (e:∀z,v.ms.any nH=false->Q (.exit 0) z):
  ∀(f j:Nat) z g,v.ms.length=j+f->(v.ms.take j).any nH=false->z.s 1= .ptr [0] 0->z.m [0] 3=some (.slice v.nlm [] (Ar v.ms))->z.s 3= .int .i64 (j:Int)->A2 S [] WD Q z g:=by
 intro f;induction f with
 |zero=>
  intro j z g k q u c o;refine Ae WD.eq_1 ?_;have:¬((j:Int)<v.ms.length):=O
  simp only[↓C2,Ih,Ii,simprocAttr,u,c,o,this,Au];rw[QH O]at q;exact e _ q
 |succ f ih=>
  intro j z g k q u c o;refine Ae WD.eq_1 ?_;have y:j<v.ms.length:=O
  have r:((j:Int)<v.ms.length):=O
  have a:=nJ (j:=j);have l:=wJ (j:=j) O;have d:(Ar v.ms)[j]?=some (.agg [.str v.ms[j].1,.int .i64 v.ms[j].2.1,.bool v.ms[j].2.2]):=by simp[Ar,Qs y,I0]
  have na:v.ms.take (j+1)=v.ms.take j++[v.ms[j]]:=by rw[QX,Qs y];rfl
  have n:v.ms[j]∈v.ms:=QQ y;generalize v.ms[j]=x at d na n;obtain⟨ja,t,b⟩:=z;simp only at u c o;by_cases p:200<x.1.length
  ·have oa:(200:Int)<(x.1.length:Int):=by omega
   simp only[↓C2,Iw,Ii,simprocAttr,u,c,o,r,a,Qv,d,Au,oa,Qz,QR,QV];refine h _ ?_ rfl;rw[Za];exact⟨x,n,by simp[nH,p]⟩
  ·have oa:¬(200:Int)<(x.1.length:Int):=by omega
   simp only[↓C2,Iw,Ii,simprocAttr,u,c,o,r,a,l,Qv,d,Au,oa,Qz,QR,QV];refine ih (j+1) _ _ O ?_ u c rfl;rw[na,Zs,q];simp[nH,p]
def aZ9:Kq F15 15:=by
 obtain⟨S,s,w⟩:=A7 (Aa aZZ Ad);have c:=w 43 _ rfl;clear w;refine Bo s (Ai func15:Fn Qw 15 35 aYK [.t 2]) (λ_=>by simp[mkV]) (λv _=>?_);have a:=aTa (nl:=v.nlt) (l:=v.ks);have j:=λm:Ig=>vwP (m:=m) (v:=v) (k:=2) rfl
 have d:=λm:Ig=>vwP (m:=m) (v:=v) (k:=3) rfl
 have x:=λm:Ig=>vwP (m:=m) (v:=v) (k:=4) rfl
 unfold aYK Sj mkV IJ;generalize Up v.ks=b at a;by_cases u:40<v.key.length
 ·have r:(40:Int)<(v.key.length:Int):=by omega
  simp only[↓C2,Ij,simprocAttr,j,AL,EJ,QF,r,u]
  all_goals exact Qj
 ·have r:¬(40:Int)<(v.key.length:Int):=by omega
  by_cases q:8<v.ms.length
  ·have y:(8:Int)<(v.ms.length:Int):=by omega
   simp only[↓C2,Ij,simprocAttr,j,d,Au,AL,EJ,QF,QT,r,u,y,q]
   all_goals exact Qj
  ·have y:¬(8:Int)<(v.ms.length:Int):=by omega
   cases b with
   |true=>
    simp only[↓C2,Ij,simprocAttr,j,d,x,a,Ab c,Au,AL,EJ,QF,QT,Q8,r,u,y,q]
    all_goals exact Qj
   |false=>
    simp only[↓C2,Ij,simprocAttr,j,d,x,a,Ab c,Au,AL,Nh,r,y];refine aQH (v:=v) O (λz o n=>?_) (λz o=>?_) v.ms.length 0 _ _ O U rfl (d (λ_ _=>none)) rfl
    ·simp only[↓C2,Ih,IM,o,n,QT]
     all_goals exact Qj
    ·simp only[↓C2,Ij,reduceIte,Qr,o,u,q,QN]
     all_goals exact Qj
def Sk(a:Ak):Bool:=decide (100<a.tk.length)||decide (200<a.pa.length)||decide (200<a.ot.length)||decide (20<a.ns.length)||decide (300<a.da.length)||LC a.rs||decide (100<a.key.length)
def mkA(a:Ak):List D:=[IB a]
def qS(x y:Ak)(e:mkA x=mkA y):x=y:=by
 grind [mkA,DF]
def akP{m:Ig}{a:Ak}{k:Nat}{d:D}(l:(It a)[k]?=some d):(m.put [0] 0 (It a)) [0] k=some d:=by
 grind [Ag]
def F16:List D->Option D:=FX mkA (λ_=>True) (λa=>NW (Sk a))
def aTj{a:Ak}:F16 [IB a]=some (NW (Sk a)):=Bl (mk:=mkA) (a:=a) qS trivial
def aZ8:Kq F16 16:=by
 obtain⟨S,v,w⟩:=A7 (Aa aUj Ad);have c:=w 44 _ rfl;clear w;refine Bo v (Ai func16:Fn Qw 16 43 aYJ [.t 2]) (λ_=>by simp[mkA]) (λa _=>?_);have d:=aE4 (nl:=a.nlr) (l:=a.rs);have r:=λm:Ig=>akP (m:=m) (a:=a) (k:=1) rfl
 have j:=λm:Ig=>akP (m:=m) (a:=a) (k:=2) rfl
 have z:=λm:Ig=>akP (m:=m) (a:=a) (k:=3) rfl
 have i:=λm:Ig=>akP (m:=m) (a:=a) (k:=7) rfl
 have y:=λm:Ig=>akP (m:=m) (a:=a) (k:=8) rfl
 have m9:=λm:Ig=>akP (m:=m) (a:=a) (k:=9) rfl
 have e:=λm:Ig=>akP (m:=m) (a:=a) (k:=10) rfl
 have g:((100:Int)<(a.tk.length:Int))=(100<a.tk.length):=propext O;have f:((200:Int)<(a.pa.length:Int))=(200<a.pa.length):=propext O;have h:((200:Int)<(a.ot.length:Int))=(200<a.ot.length):=propext O;have s:((20:Int)<(a.ns.length:Int))=(20<a.ns.length):=propext O;have p:((300:Int)<(a.da.length:Int))=(300<a.da.length):=propext O;have q6:((100:Int)<(a.key.length:Int))=(100<a.key.length):=propext O;unfold aYJ Sk mkA IB;generalize LC a.rs=b at d;by_cases u:100<a.tk.length
 ·simp only[↓C2,Ij,simprocAttr,r,g,AA,EJ,QF,u]
  all_goals exact Qj
 by_cases q:200<a.pa.length
 ·simp only[↓C2,Ij,simprocAttr,r,j,g,f,AA,EJ,QF,QT,u,q]
  all_goals exact Qj
 by_cases o:200<a.ot.length
 ·simp only[↓C2,Ij,simprocAttr,r,j,z,g,f,h,AA,EJ,QF,QT,Q8,u,q,o]
  all_goals exact Qj
 by_cases n:20<a.ns.length
 ·simp only[↓C2,Ij,simprocAttr,r,j,z,i,g,f,h,s,Bb,AA,EJ,QF,QT,Q8,u,q,o,n]
  all_goals exact Qj
 by_cases h5:300<a.da.length
 ·simp only[↓C2,Ij,simprocAttr,r,j,z,i,y,g,f,h,s,p,Bb,AA,EJ,QF,QT,Q8,u,q,o,n,h5]
  all_goals exact Qj
 cases b with
 |true=>
  simp only[↓C2,Ij,simprocAttr,r,j,z,i,y,m9,g,f,h,s,p,d,Ab c,Bb,AA,EJ,QF,QT,Q8,u,q,o,n,h5]
  all_goals exact Qj
 |false=>
  by_cases x:100<a.key.length
  ·simp only[↓C2,Ij,simprocAttr,r,j,z,i,y,m9,e,g,f,h,s,p,q6,d,Ab c,Bb,AA,EJ,Nh,QT,Q8,u,q,o,n,h5,x]
   all_goals exact Qj
  ·simp only[↓C2,Ij,simprocAttr,r,j,z,i,y,m9,e,g,f,h,s,p,q6,d,Ab c,Bb,AA,Nh,Q8,u,q,o,n,h5,x]
   all_goals exact Qj
def F53:List D->Option D:=FX Nk (λp=>p.2.length<=1000) (λp=> .slice p.2.isEmpty [] (Aj p.2))
def aE1{nl:Bool}{l:List Rl}(h:l.length<=1000):F53 [.slice nl [] (Aj l)]=some (.slice l.isEmpty [] (Aj l)):=Bl (mk:=Nk) (a:=(nl,l)) Sn h
def dW{l:List Rl}{j:Nat}(h:j<l.length):(l.take (j+1)).isEmpty=false:=by
 cases l with
 |nil=>simp at h
 |cons x r=>rfl
def aQD{S:Ic}{l:List Rl}{nl:Bool}{Q:Ex->St->Prop}(i:l.length<=1000)
  (w:∀z t,z.s 3= .slice l.isEmpty t (Aj l)->Q (.exit 0) z):
  ∀(f j:Nat)(t:Id) z g,l.length=j+f->z.s 0= .slice nl [] (Aj l)->z.s 3= .slice (l.take j).isEmpty t (Aj (l.take j))->Gw z.m z.c 209 (l.take j).isEmpty t->z.s 4= .int .i64 (j:Int)->A2 S [] V2 Q z g:=by
 intro f;induction f with
 |zero=>
  intro j t z g k r o hg n;refine Ae V2.eq_1 ?_;have:¬((j:Int)<l.length):=O
  simp only[↓C2,Ih,Ii,simprocAttr,r,n,this,Aw];rw[QH O]at o;exact w _ t o
 |succ f ih=>
  intro j t z g k r o hg n;refine Ae V2.eq_1 ?_;have y:j<l.length:=O
  have v:((j:Int)<l.length):=O
  have x:=nJ (j:=j);have hw:=wJ (j:=j) O;have d:(Aj l)[j]?=some (.agg [.str l[j].1,.int .u8 l[j].2]):=by simp[Aj,Qs y,iM]
  have na:Aj (l.take (j+1))=Aj (l.take j)++[.agg [.str l[j].1,.int .u8 l[j].2]]:=by
   have e:l.take (j+1)=l.take j++[l[j]]:=by rw[QX,Qs y];rfl
   rw[e];unfold Aj;rw[ZC];rfl
  have hn:(l.take j).isEmpty=true->Aj (l.take j)=[]:=λh=>by rw[Zg.1 h];rfl
  have p:(Aj (l.take j)).length<=1000:=by rw[Aw,Zc];omega
  have a:(l.take j).length<=1000:=Xg
  have b:=dW y;obtain⟨ja,u,q⟩:=z;simp only at r o hg n;simp only[↓C2,Iw,Ii,simprocAttr,r,o,n,v,x,Qv,d,Aw,and_false,QI,QL,and_false];refine AF.intro ⟨O,rfl,hg.grow O⟩ ?_;rw[BN hn];simp only[↓C2,Ij,simprocAttr,n,hw];refine ih (j+1) [q+4+6] _ _ O r ?_ ?_ rfl
  ·rw[b,na];rfl
  ·grind [Gw.new]
def aUc:Kq F53 53:=by
 refine Bo (S:=λ_=>none) AI (Ai func53:Fn Qw 53 19 aYg [.t 2]) (λ_=>by simp[Nk]) (λp g=>?_);obtain⟨nl,l⟩:=p;simp only at g;unfold aYg Nk;simp only[↓C2,Ih,Qr];refine aQD (l:=l) (nl:=nl) g (λz t h=>?_) l.length 0 [] _ _ O rfl rfl (.inl rfl) rfl;simp only[↓C2,Ij,simprocAttr,h]
def DB(k:Tk):Tk:=(k.1,k.2.1,k.2.2.2.isEmpty,k.2.2.2)
def F51:List D->Option D:=FX (λk:Tk=>[I2 k]) (λk=>k.2.2.2.length<=1000) (λk=>I2 (DB k))
def cE(x y:Tk)(e:[I2 x]=[I2 y]):x=y:=by
 simp only[Qo,and_true]at e;have:Ay [x]=Ay [y]:=by simp[Ay,e]
 simpa using Hg this
def aS9{k:Tk}(h:k.2.2.2.length<=1000):F51 [I2 k]=some (I2 (DB k)):=Bl (mk:=λk:Tk=>[I2 k]) (a:=k) cE h
def aZX:Kq F51 51:=by
 obtain⟨S,v,w⟩:=A7 (Aa aUc Ad);have c:=w 53 _ rfl;clear w;refine Bo v (Ai func51:Fn Qw 51 11 aYi [.cell (some 3) 2]) (λ_=>U) (λk j=>?_);obtain⟨u,r,i,s⟩:=k;simp only at j;have b:=aE1 (nl:=i) (l:=s) j;unfold aYi I2 DB;simp only;simp only[↓C2,Is,simprocAttr,Cd,DV,Ze,QO,QS,Ab c,b,Ag,Ao,Ap,Qy,QI,QL,Qx,QR,QW,Qo,Qt,Qp];refine Al ?_;simp only[↓C2,Is,simprocAttr,QO,QS,Ag,Ao,Ap,Qy,Qo,Qp,BA,A6]
 all_goals exact Qj
def F46:List D->Option D:=FX (λm:Mt=>[I0 m]) (λ_=>True) (λm=>I0 m)
def aBZ(x y:Mt)(e:[I0 x]=[I0 y]):x=y:=by
 simp only[Qo,and_true]at e;have:Ar [x]=Ar [y]:=by simp[Ar,e]
 simpa using LH this
def aE3{m:Mt}:F46 [I0 m]=some (I0 m):=Bl (mk:=λm:Mt=>[I0 m]) (a:=m) aBZ trivial
def aUh:Kq F46 46:=by
 refine Bo (S:=λ_=>none) AI (Ai func46:Fn Qw 46 8 aYn [.cell (some 3) 2]) (λ_=>U) (λm _=>?_);obtain⟨u,r,i⟩:=m;unfold aYn I0;simp only;simp only[↓C2,Is,simprocAttr,Cd,DV,Ze,QO,QS,Ag,Ao,Ap,Qy,QI,QL,Qx,QR,QW,Qo,Qt,Qp,BA,A6]
 all_goals exact Qj
def Cv(a:Ak):Ak:={a with nlr:=a.rs.isEmpty}
def F18:List D->Option D:=FX mkA (λa=>a.rs.length<=1000) (λa=>IB (Cv a))
def aTh{a:Ak}(h:a.rs.length<=1000):F18 [IB a]=some (IB (Cv a)):=Bl (mk:=mkA) (a:=a) qS h
def aZ6:Kq F18 18:=by
 obtain⟨S,v,w⟩:=A7 (Aa aUc Ad);have c:=w 53 _ rfl;clear w;refine Bo v (Ai func18:Fn Qw 18 27 aYH [.cell (some 11) 2]) (λ_=>by simp[mkA]) (λa q=>?_);have b:=aE1 (nl:=a.nlr) (l:=a.rs) q;unfold aYH mkA IB It Cv;simp only[↓C2,Is,simprocAttr,Cd,DV,Ze,QO,QS,Ab c,b,Ag,Ao,Ap,Qy,QI,QL,Qx,QR,QW,Qo,Qt,Qp];refine Al ?_;simp only[↓C2,Is,simprocAttr,QO,QS,Ag,Ao,Ap,Qy,Qo,Qp,BA,A6]
 all_goals exact Qj
def aHw(k:Bs)(nl:Bool):Vw:=⟨false,1,k,true,[],nl,[Io]⟩
def F23:List D->Option D
 |[.str k]=>some (IJ (aHw k false))
 |_=>none
def aZ4:Kq F23 23:=by
 obtain⟨S,v,w⟩:=A7 (Aa aUf Ad);have b:=w 48 _ rfl;clear w;refine AD (S:=S) v (Ai func23:Fn Qw 23 6 aYE [.cell (some 5) 2]) (λds r h=>?_) (λds r h=>?_)
 ·unfold F23 at h;split at h
  ·simp
  ·cases h
 ·unfold F23 at h;split at h
  ·simp only[QP]at h;subst h;have y:F48 []=some (.agg [.slice false [] (Ay [Io])]):=rfl;unfold aYE;simp only[↓C2,Is,simprocAttr,Cd,DV,Ze,QO,QS,Ab b,y,Ag,Ao,Ap,Qy,QI,QL,Qx,QR,QW,BA,A6]
   all_goals exact Qj
  ·cases h
def aBo{m:Ig}{i:Id}{x y:D}:(m.put i 0 [x]).put i 0 [y]=m.put i 0 [y]:=by
 grind [Ag]
def BZ(s:Bool×List Mt)(m:Mt):Bool×List Mt:=match (FD s.2 m).1 with
 |none=>s
 |some l=>(false,l)
def CE(s:Bool×List Mt)(m:Mt):Bool×List Mt:=match (Gf s.2 m).1 with
 |none=>s
 |some l=>(false,l)
def aF0(s:Bool×List Mt)(m:Mt):aF1 s.1 s.2 (FD s.2 m).1= .agg [.slice (BZ s m).1 [] (Ar (BZ s m).2)]:=by
 unfold BZ;cases(FD s.2 m).1<;>rfl
def aFZ(s:Bool×List Mt)(m:Mt):aAJ s.1 s.2 (Gf s.2 m).1= .slice (CE s m).1 [] (Ar (CE s m).2):=by
 unfold CE;cases(Gf s.2 m).1<;>rfl
def iA(s:Bool×List Mt)(n:Nat):Prop:=s.2.length<=n∧(s.1=true->s.2=[])
def aEh{s:Bool×List Mt}{m:Mt}{n:Nat}(h:iA s n):iA (BZ s m) (n+1):=by
 unfold BZ FD
 repeat' split
 all_goals first|exact⟨Zp h.1,h.2⟩|skip
 all_goals (rename_i x;revert x;repeat' split)
 all_goals intro x
 all_goals (cases x)
 all_goals exact⟨by rw[HY,QJ];exact Nat.succ_le_succ h.1,λh=>Xd⟩
def gI{s:Bool×List Mt}{m:Mt}{n:Nat}(h:iA s n)(g:∀x∈s.2,x.1.length<=1000)(z:m.1.length<=1000):iA (CE s m) (n+1)∧∀x∈(CE s m).2,x.1.length<=1000:=by
 unfold CE Gf
 repeat' split
 all_goals first|exact⟨⟨Zp h.1,h.2⟩,g⟩|skip
 all_goals (rename_i j;revert j;repeat' split)
 all_goals intro j
 all_goals (cases j)
 all_goals
  refine⟨⟨?_,λh=>Xd⟩,λx p=>?_⟩
  ·have:=h.1;simp only[QJ,QA,Zc,ZO];omega
  ·grind
def Bx(s:Bool×List Tk)(k:Tk):Bool×List Tk:=match (De s.2 (DB k)).1 with
 |none=>s
 |some l=>(false,l)
def CB(s:Bool×List Tk)(k:Tk):Bool×List Tk:=match (Dr s.2 k).1 with
 |none=>s
 |some l=>(false,l)
def aF6(s:Bool×List Tk)(k:Tk):Vh s.1 s.2 (De s.2 (DB k)).1= .agg [.slice (Bx s k).1 [] (Ay (Bx s k).2)]:=by
 unfold Bx;cases(De s.2 (DB k)).1<;>rfl
def aF5(s:Bool×List Tk)(k:Tk):PL s.1 s.2 (Dr s.2 k).1= .slice (CB s k).1 [] (Ay (CB s k).2):=by
 unfold CB;cases(Dr s.2 k).1<;>rfl
def TkG(k:Tk):Prop:=k.1.length<=1000∧k.2.1.length<=1000∧iY k∧EB k.2.2.2
def GM(s:Bool×List Tk)(n:Nat):Prop:=s.2.length<=n∧∀k∈s.2,TkG k
def aGz{k:Tk}(h:TkG k):TkG (DB k):=⟨h.1,h.2.1,⟨h.2.2.1.1,λe=>Zg.1 e⟩,h.2.2.2⟩
def aB8{l:List Tk}{k:Tk}{j n:Nat}(h:l.length<=n)(w:∀k∈l,TkG k)(g:TkG k):GM (false,l.take j++k::l.drop j) (n+1):=by
 refine⟨?_,λx p=>?_⟩
 ·grind
 ·grind
def OO{s:Bool×List Tk}{k:Tk}{n:Nat}(h:GM s n)(j:TkG k):GM (Bx s k) (n+1):=by
 unfold Bx De
 repeat' split
 all_goals first|exact⟨Zp h.1,h.2⟩|skip
 all_goals (rename_i x;revert x;repeat' split)
 all_goals intro x
 all_goals (cases x)
 all_goals exact aB8 h.1 h.2 (aGz j)
def Uy{s:Bool×List Tk}{k:Tk}{n:Nat}(h:GM s n)(j:TkG k):GM (CB s k) (n+1):=by
 unfold CB Dr
 repeat' split
 all_goals first|exact⟨Zp h.1,h.2⟩|skip
 all_goals (rename_i x;revert x;repeat' split)
 all_goals intro x
 all_goals (cases x)
 all_goals exact aB8 h.1 h.2 j
open Classical in
def aE2{nl0 nl:Bool}{l:List Tk}{n p:Bs}{rs:List Rl}(w:l.length<=90000)(j:∀k∈l,EB k.2.2.2)(f:nl=true->rs=[])(y:EB rs)(u:n.length<=1000000)(q:p.length<=1000000):
  F50 [.agg [.slice nl0 [] (Ay l)],.agg [.str n,.str p,.slice nl [] (Aj rs)]]=some (.tup [Vh nl0 l (De l (n,p,nl,rs)).1,.int .i64 (De l (n,p,nl,rs)).2]):=by
 have h:(Fm (Ay l)∧(Ay l).length<=90000∧∀k∈Cz (Ay l),EB k.2.2.2)∧MR nl (Aj rs)∧EB (Br (Aj rs))∧n.length<=1000000∧p.length<=1000000:=
  ⟨⟨EV O,Yh,Yf⟩,Lr y.1 f,by rw[A_];exact y,u,q⟩
 show(if _ then _ else _)=_;rw[if_pos h,By,A_]
open Classical in
def W3{nl0 nl:Bool}{l:List Tk}{n p:Bs}{rs:List Rl}(w:l.length<=90000)(j:∀k∈l,EB k.2.2.2)(f:nl=true->rs=[])(y:EB rs)(u:n.length<=1000000)(q:p.length<=1000000):
  F52 [.slice nl0 [] (Ay l),.agg [.str n,.str p,.slice nl [] (Aj rs)]]=some (.tup [PL nl0 l (Dr l (n,p,nl,rs)).1,.int .i64 (Dr l (n,p,nl,rs)).2]):=by
 have h:(Fm (Ay l)∧(Ay l).length<=90000∧∀k∈Cz (Ay l),EB k.2.2.2)∧MR nl (Aj rs)∧EB (Br (Aj rs))∧n.length<=1000000∧p.length<=1000000:=
  ⟨⟨EV O,Yh,Yf⟩,Lr y.1 f,by rw[A_];exact y,u,q⟩
 show(if _ then _ else _)=_;rw[if_pos h,By,A_]
structure IV (v:Vw):Prop where
 ml:v.ms.length<=8
 mp:∀m∈v.ms,m.1.length<=1000
 kl:v.ks.length<=12
 kp:∀k∈v.ks,TkG k
 kr:∀k∈v.ks,k.2.2.2.length<=1000
def z5:List D:=[.bool false,.int .i64 0,.str [],.slice true [] [],.slice true [] []]
def HE(v:Vw):Ig:=(((Ig.put (λ_ _=>none) [0] 0 (Iq v)).put [1] 0 z5).put [2] 0 z5)
def vM0{v:Vw}{k:Nat}{d:D}(l:(Iq v)[k]?=some d):HE v [0] k=some d:=by
 unfold HE;rw[aA Z,aA Z];have j:=(Q2.1 l).1;rw[Ag,if_pos ⟨rfl,Qz _,O⟩];exact l
def aHe{S:Ic}{v:Vw}{Q:Ex->St->Prop}(ca:S 46=some (Af F46))(h:S 45=some (Af F45))(e:S 47=some (Af F47))(p:IV v)
  (ia:∀z:St,6<=z.c->z.s 1= .ptr [0] 0->z.s 2= .ptr [1] 0->z.s 3= .ptr [2] 0->z.s 4= .ptr [3] 0->z.s 5= .slice (v.ms.foldl CE (true,[])).1 [] (Ar (v.ms.foldl CE (true,[])).2)->z.m=(HE v).put [3] 0 [.slice (v.ms.foldl BZ (true,[])).1 [] (Ar (v.ms.foldl BZ (true,[])).2)]->Q (.exit 0) z):
  ∀(f j:Nat)(a r:Bool×List Mt)(z:St) g,v.ms.length=j+f->a=(v.ms.take j).foldl BZ (true,[])->r=(v.ms.take j).foldl CE (true,[])->iA a j->iA r j->(∀x∈r.2,x.1.length<=1000)->
   6<=z.c->z.s 1= .ptr [0] 0->z.s 2= .ptr [1] 0->z.s 3= .ptr [2] 0->z.s 4= .ptr [3] 0->z.s 5= .slice r.1 [] (Ar r.2)->z.s 6= .int .i64 (j:Int)->z.m=(HE v).put [3] 0 [.slice a.1 [] (Ar a.2)]->A2 S [] Wy Q z g:=by
 have sa:=p.ml;have m3:∀x,(HE v).put [3] 0 [x] [0] 3=some (.slice v.nlm [] (Ar v.ms)):=λx=>by rw[aA Z];exact vM0 rfl
 intro f;induction f with
 |zero=>
  intro j a r z g hf ha hr oa or hp hc u q o h4 h5 h6 hm;refine Ae Wy.eq_1 ?_;have:¬((j:Int)<v.ms.length):=O
  rw[QH O]at ha hr;subst ha hr;simp only[↓C2,Ih,Ii,simprocAttr,u,h6,hm,m3,Au,this];exact ia _ Xb u q o h4 h5 rfl
 |succ f ih=>
  intro j a r z g hf ha hr oa or hp hc u q o h4 h5 h6 hm;refine Ae Wy.eq_1 ?_;have k:j<v.ms.length:=O
  have aa:((j:Int)<v.ms.length):=O
  have qa:=nJ (j:=j);have hw:=wJ (j:=j) O;have w:(Ar v.ms)[j]?=some (.agg [.str v.ms[j].1,.int .i64 v.ms[j].2.1,.bool v.ms[j].2.2]):=by simp[Ar,Qs k,I0]
  have na:v.ms.take (j+1)=v.ms.take j++[v.ms[j]]:=by rw[QX,Qs k];rfl
  have ea:=p.mp _ (QQ k);generalize v.ms[j]=x at w na ea;have n:BZ a x=(v.ms.take (j+1)).foldl BZ (true,[]):=Y1
  have za:CE r x=(v.ms.take (j+1)).foldl CE (true,[]):=Y0
  have l:=aEh (m:=x) oa;have i:=gI or hp ea;have d:F46 [.agg [.str x.1,.int .i64 x.2.1,.bool x.2.2]]=some (.agg [.str x.1,.int .i64 x.2.1,.bool x.2.2]):=aE3 (m:=x);have l1:=oa.1;have l2:=or.1;have la:F45 [.agg [.slice a.1 [] (Ar a.2)],.agg [.str x.1,.int .i64 x.2.1,.bool x.2.2]]=some (.tup [.agg [.slice (BZ a x).1 [] (Ar (BZ a x).2)],.int .i64 (FD a.2 x).2]):=by
   rw[←aF0];exact oM (m:=x) O oa.2 O
  have b:F47 [.slice r.1 [] (Ar r.2),.agg [.str x.1,.int .i64 x.2.1,.bool x.2.2]]=some (.tup [.slice (CE r x).1 [] (Ar (CE r x).2),.int .i64 (Gf r.2 x).2]):=by
   rw[←aFZ];exact oL (m:=x) O or.2 O (λy hy=>ZJ (hp y hy) O)
  generalize (FD a.2 x).2=e1 at la;generalize (Gf r.2 x).2=e2 at b;generalize BZ a x=a' at n l la;generalize CE r x=r' at za i b;obtain⟨ja,t,fa⟩:=z;simp only at hc u q o h4 h5 h6 hm;subst hm;simp only[↓C2,Is,simprocAttr,u,h4,h6,m3,Au,aa,qa,Qv,w,Ab ca,d,Ab h,la,Ag,Ao,Ap,Qy,QI,QL,Qx];refine AF.intro (Ce (by simp[Ec,BP,Lf,A4];done)) ?_;simp only[↓C2,Iw,Ii,simprocAttr,u,h5,h6,m3,qa,hw,Qv,w,Ab e,b,aBo,QB,QG,QI,QL];exact ih (j+1) a' r' _ _ O n za l i.1 i.2 Xb u q o h4 rfl rfl aBo
def aHd{S:Ic}{v:Vw}{M:Ig}{q:Nat}{s5:D}{Q:Ex->St->Prop}(t:S 51=some (Af F51))(o:S 50=some (Af F50))(p:S 52=some (Af F52))(hv:IV v)(hq:4<=q)(hM:∀k d,(Iq v)[k]?=some d->M [0] k=some d)
  (ia:∀z:St,q<z.c->z.s 1= .ptr [0] 0->z.s 2= .ptr [1] 0->z.s 3= .ptr [2] 0->z.s 4= .ptr [3] 0->z.s 7= .ptr [q] 0->z.s 8= .slice (v.ks.foldl CB (false,[Io])).1 [] (Ay (v.ks.foldl CB (false,[Io])).2)->z.s 5=s5->z.m=M.put [q] 0 [.slice (v.ks.foldl Bx (false,[Io])).1 [] (Ay (v.ks.foldl Bx (false,[Io])).2)]->Q (.exit 2) z):
  ∀(f j:Nat)(a r:Bool×List Tk)(z:St) g,v.ks.length=j+f->a=(v.ks.take j).foldl Bx (false,[Io])->r=(v.ks.take j).foldl CB (false,[Io])->GM a (j+1)->GM r (j+1)->
   q<z.c->z.s 1= .ptr [0] 0->z.s 2= .ptr [1] 0->z.s 3= .ptr [2] 0->z.s 4= .ptr [3] 0->z.s 5=s5->z.s 7= .ptr [q] 0->z.s 8= .slice r.1 [] (Ay r.2)->z.s 9= .int .i64 (j:Int)->z.m=M.put [q] 0 [.slice a.1 [] (Ay a.2)]->A2 S [] Wx Q z g:=by
 have sa:=hv.kl;have m4:∀x,M.put [q] 0 [x] [0] 4=some (.slice v.nlt [] (Ay v.ks)):=λx=>by rw[aA Xc];exact hM _ _ rfl
 intro f;induction f with
 |zero=>
  intro j a r z g hf ha hr oa or hc u h2 y h4 h5 h7 h8 h9 hm;refine Ae Wx.eq_1 ?_;have:¬((j:Int)<v.ks.length):=O
  rw[QH O]at ha hr;subst ha hr;simp only[↓C2,Ih,Ii,simprocAttr,u,h9,hm,m4,AH,this];exact ia _ Xb u h2 y h4 h7 h8 h5 rfl
 |succ f ih=>
  intro j a r z g hf ha hr oa or hc u h2 y h4 h5 h7 h8 h9 hm;refine Ae Wx.eq_1 ?_;have hj:j<v.ks.length:=O
  have aa:((j:Int)<v.ks.length):=O
  have qa:=nJ (j:=j);have hw:=wJ (j:=j) O;have w:(Ay v.ks)[j]?=some (.agg [.str v.ks[j].1,.str v.ks[j].2.1,.slice v.ks[j].2.2.1 [] (Aj v.ks[j].2.2.2)]):=by simp[Ay,Qs hj,I2]
  have na:v.ks.take (j+1)=v.ks.take j++[v.ks[j]]:=by rw[QX,Qs hj];rfl
  have ea:=hv.kp _ (QQ hj);have h:=hv.kr _ (QQ hj);generalize v.ks[j]=x at w na ea h;have n:Bx a x=(v.ks.take (j+1)).foldl Bx (false,[Io]):=Y1
  have za:CB r x=(v.ks.take (j+1)).foldl CB (false,[Io]):=Y0
  have l:=OO oa ea;have i:=Uy or ea;obtain⟨x1,x2,x3,x4⟩:=x;obtain⟨p1,p2,⟨p3,p4⟩,p5⟩:=ea;simp only at p1 p2 p3 p4 p5;simp only at w;simp only at h;have b:F51 [.agg [.str x1,.str x2,.slice x3 [] (Aj x4)]]=some (.agg [.str x1,.str x2,.slice x4.isEmpty [] (Aj x4)]):=aS9 (k:=(x1,x2,x3,x4)) h;have l1:=oa.1;have l2:=or.1;have ka:F50 [.agg [.slice a.1 [] (Ay a.2)],.agg [.str x1,.str x2,.slice x4.isEmpty [] (Aj x4)]]=some (.tup [.agg [.slice (Bx a (x1,x2,x3,x4)).1 [] (Ay (Bx a (x1,x2,x3,x4)).2)],.int .i64 (De a.2 (x1,x2,x4.isEmpty,x4)).2]):=by
   rw[←aF6];exact aE2 O (λk hk=>(oa.2 k hk).2.2.2) (λe=>Zg.1 e) p5 O O
  have la:F52 [.slice r.1 [] (Ay r.2),.agg [.str x1,.str x2,.slice x3 [] (Aj x4)]]=some (.tup [.slice (CB r (x1,x2,x3,x4)).1 [] (Ay (CB r (x1,x2,x3,x4)).2),.int .i64 (Dr r.2 (x1,x2,x3,x4)).2]):=by
   rw[←aF5];exact W3 O (λk hk=>(or.2 k hk).2.2.2) p4 p5 O O
  generalize (De a.2 (x1,x2,x4.isEmpty,x4)).2=e1 at ka;generalize (Dr r.2 (x1,x2,x3,x4)).2=e2 at la;generalize Bx a (x1,x2,x3,x4)=a' at n l ka;generalize CB r (x1,x2,x3,x4)=r' at za i la;obtain⟨ja,da,fa⟩:=z;simp only at hc u h2 y h4 h5 h7 h8 h9 hm;subst hm;simp only[↓C2,Is,simprocAttr,u,h7,h9,m4,AH,aa,qa,Qv,w,Ab t,b,Ab o,ka,Ag,Ao,Ap,Qy,QI,QL,Qx];refine AF.intro (Ce (by simp[Ec,BP,Lf,A4];done)) ?_;simp only[↓C2,Iw,Ii,simprocAttr,u,h8,h9,m4,qa,hw,Qv,w,Ab p,la,aBo,QB,QG,QI,QL];exact ih (j+1) a' r' _ _ O n za l i Xb u h2 y h4 h5 h7 rfl rfl aBo
def vH{s:Nat->D}{m:Ig}{k k':Option Nat}{a b:Nat}:Cw [.cell k a,.cell k' b] s m=(Tl m k (s a)).bind λd=>(Tl m k' (s b)).map λi=> .tup [d,i]:=by
 simp only[Cw,Gt,RV.of];cases Tl m k (s a)<;>cases Tl m k' (s b)<;>rfl
def teV(n:Int):Int:=IntKind.i64.wrap (1+IntKind.i64.wrap ((IntKind.u64.wrap n).tmod 6))
def Gg(v:Vw):Vw:=⟨v.se,teV v.te,v.key,(v.ms.foldl BZ (true,[])).1,(v.ms.foldl BZ (true,[])).2,(v.ks.foldl Bx (false,[Io])).1,(v.ks.foldl Bx (false,[Io])).2⟩
def FA(v:Vw):Vw:=⟨v.se,teV v.te,v.key,(v.ms.foldl CE (true,[])).1,(v.ms.foldl CE (true,[])).2,(v.ks.foldl CB (false,[Io])).1,(v.ks.foldl CB (false,[Io])).2⟩
def F17:List D->Option D:=FX mkV IV (λv=> .tup [IJ (Gg v),IJ (FA v)])
def aTi{v:Vw}(h:IV v):F17 [IJ v]=some (.tup [IJ (Gg v),IJ (FA v)]):=Bl (mk:=mkV) (a:=v) qR h
def LY:GM (false,[Io]) 1:=⟨Z,λk j=>by
 rw[Q_.1 j];refine⟨Z,Z,⟨Z,Z⟩,⟨Z,λr y=>?_,λr y=>?_⟩⟩
 ·rw[Q_.1 y];decide
 ·rw[Q_.1 y];decide⟩
def aZ7:Kq F17 17:=by
 obtain⟨S,hS,w⟩:=A7 (Aa aUh (Aa aUi (Aa aUg (Aa aUf (Aa aZY (Aa aZX (Aa aUe (Aa aUd Ad))))))));have s:=w 46 _ rfl;have h:=w 45 _ rfl;have e:=w 47 _ rfl;have b:=w 48 _ rfl;have l:=w 49 _ rfl;have t:=w 51 _ rfl;have o:=w 50 _ rfl;have p:=w 52 _ rfl;clear w;refine Bo hS (Ai func17:Fn Qw 17 91 aYI [.cell (some 5) 2,.cell (some 5) 3]) (λ_=>by simp[mkV]) (λv hv=>?_);have ba:F48 []=some (.agg [.slice false [] (Ay [Io])]):=rfl;have la:F49 []=some (.slice false [] (Ay [Io])):=rfl;unfold aYI mkV IJ;simp only[↓C2,Ih,IM,Qr,AL];refine aHe (v:=v) s h e hv (λz hc u h2 h3 n h5 hm=>?_) v.ms.length 0 (true,[]) (true,[]) _ _ O rfl rfl ⟨QZ _,λ_=>rfl⟩ ⟨QZ _,λ_=>rfl⟩ (λx r=>by cases r) Xb rfl rfl rfl rfl rfl rfl rfl;obtain⟨ja,da,fa⟩:=z;simp only at hc u h2 h3 n h5 hm;subst hm;have hM:∀x k d,(Iq v)[k]?=some d->(HE v).put [3] 0 [x] [0] k=some d:=λx k d hd=>by rw[aA Z];exact vM0 hd
 generalize hA:v.ms.foldl BZ (true,[])=A;generalize hR:v.ms.foldl CE (true,[])=R at h5;simp only[↓C2,Iw,Ii,reduceIte,Qn,Qr,Ab b,ba,Ab l,la,Ag,Ao,Ap,Qz,QK,QE,QB,and_self,Qy,Qx,Qo];refine aHd (v:=v) (M:=(HE v).put [3] 0 [.slice A.1 [] (Ar A.2)]) (q:=fa+2) (s5:= .slice R.1 [] (Ar R.2)) t o p hv O (hM _) (λz ka u h2 h3 n h7 h8 h5 hm=>?_) v.ks.length 0 (false,[Io]) (false,[Io]) _ _ O rfl rfl LY LY Xb u h2 h3 n h5 rfl rfl rfl aBo;obtain⟨i,a,m⟩:=z;simp only at ka u h2 h3 n h5 h7 h8 hm;have g:Ah a [3] 0 1=some [.slice A.1 [] (Ar A.2)]:=by rw[hm,AT XF];exact AX rfl
 have j:Ah a [fa+2] 0 1=some [.slice (Gg v).nlt [] (Ay (Gg v).ks)]:=by rw[hm];exact AX rfl
 have k0:a [0] 0=some (.bool v.se):=Yw
 have k1:a [0] 1=some (.int .i64 v.te):=Yw
 have k2:a [0] 2=some (.str v.key):=Yw
 have z1:Ah a [1] 0 5=some z5:=by rw[hm,AT XF,AT Z];unfold HE;rw[AT Z];exact AX rfl
 have z2:Ah a [2] 0 5=some z5:=by rw[hm,AT XF,AT Z];unfold HE;exact AX rfl
 have o1:∀x,Ah (a.put [1] 0 x) [2] 0 5=some z5:=λx=>by rw[AT Z];exact z2
 have e1:∀x y,x.length=5->Ah ((a.put [1] 0 x).put [2] 0 y) [1] 0 5=some x:=λx y r=>by rw[AT Z,AX r]
 have e2:∀x y,y.length=5->Ah ((a.put [1] 0 x).put [2] 0 y) [2] 0 5=some y:=λx y hy=>by rw[AX hy]
 have f:A.1=(Gg v).nlm∧A.2=(Gg v).ms:=by subst hA;exact⟨rfl,rfl⟩
 have c:R.1=(FA v).nlm∧R.2=(FA v).ms:=by subst hR;exact⟨rfl,rfl⟩
 rw[f.1,f.2]at g;rw[c.1,c.2]at h5;have hU:fa+2≠1∧fa+2≠2:=O
 replace h8:i 8= .slice (FA v).nlt [] (Ay (FA v).ks):=h8;clear hm f c hA hR hM;simp only[↓C2,Ih,reduceIte,Qn,Qr,u,k1,Qu];refine AF.intro Z ?_;simp only[↓C2,Iw,Ii,reduceIte,Qn,Qr,u,h2,h3,n,h5,h7,h8,g,j,k0,k2,z1,o1,Cd,DV,Ze,QO,QS,Zw,and_self,QI,QL,Qx,QR,QW];refine AF.intro (Ce ?_) ?_
 ·simp only[Ec,Q5,Q6,Zl,QB,QG,Zb,BP,QA,QD,Q1,Q4,Lf,↓C2,reduceIte,Qn,h2,h3,n,h7];simp[A4]
  try omega
 simp only[↓C2,Iw,Ii,reduceIte,Qn,Qr,h2,h3,e1,e2,Cf,vH,Tl,QO,QS,Qy];rfl
def Ri:=y1 f255 4 [] []
def aNt:=y0 f255 [] [(4,Ri)]
def aOP:=y0 f149 [] []
def Rh:=y1 f256 3 [] []
def aNs:=y0 f256 [] [(3,Rh)]
def aOO:=y0 f150 [(1,[(6,1),(6,3)])] []
def V_:=y1 f67 5 [(7,[(6,10),(10,0),(10,5),(10,6)]),(8,[(16,20)])] []
def aYb:=y0 f67 [] [(5,V_)]
def V0:=y1 f66 5 [(7,[(8,3)])] []
def aYc:=y0 f66 [] [(5,V0)]
def aYF:=y0 f22 [] []
def aRv:(true !=true)=false:=rfl
def kN(p:Bool×Bool×List Rl):List D:=[.slice p.1 [] (Aj p.2.2),.slice p.2.1 [] (Aj p.2.2)]
def aB5(x y:Bool×Bool×List Rl)(e:kN x=kN y):x=y:=by
 grind [kN,Ls]
def aZz:List D->Option D:=FX kN (λp=>p.2.2.length<=1000) (λ_=> .bool true)
def aKm{n1 n2:Bool}{l:List Rl}(h:l.length<=1000):aZz [.slice n1 [] (Aj l),.slice n2 [] (Aj l)]=some (.bool true):=Bl (mk:=kN) (a:=(n1,n2,l)) aB5 h
def aGZ{S:Ic}{l:List Rl}{n1 n2:Bool}{Q:Ex->St->Prop}(i:l.length<=1000)(e:∀z,Q (.exit 0) z):
  ∀(f j:Nat)(z:St) g,l.length=j+f->z.s 0= .slice n1 [] (Aj l)->z.s 1= .slice n2 [] (Aj l)->z.s 5= .int .i64 (j:Int)->A2 S [] Ri Q z g:=by
 intro f;induction f with
 |zero=>
  intro j z g k r u m;refine Ae Ri.eq_1 ?_;have:¬((j:Int)<l.length):=O
  simp only[↓C2,Ih,Ii,simprocAttr,r,m,this,Aw];exact e _
 |succ f ih=>
  intro j z g k r u m;refine Ae Ri.eq_1 ?_;have y:j<l.length:=O
  have v:((j:Int)<l.length):=O
  have a:=nJ (j:=j);have h:=wJ (j:=j) O;have d:(Aj l)[j]?=some (.agg [.str l[j].1,.int .u8 l[j].2]):=by simp[Aj,Qs y,iM]
  have ta:Bn [.str l[j].1,.int .u8 l[j].2] [.str l[j].1,.int .u8 l[j].2] [(2,0),(0,1)]=some true:=by simp[Bn,LJ]
  obtain⟨c,t,o⟩:=z;simp only at r u m;simp only[↓C2,Iw,Ii,simprocAttr,r,u,m,v,a,Qv,d,ta,Aw,aRv,QI,QL];refine Al ?_;simp only[↓C2,Ih,IM,simprocAttr,m,h];exact ih (j+1) _ _ O r u rfl
def aUY:Kq aZz 255:=by
 refine Bo (S:=λ_=>none) AI (Ai func255:Fn Qw 255 26 aNt [.t 4]) (λ_=>by simp[kN]) (λp g=>?_);obtain⟨n1,n2,l⟩:=p;simp only at g;have c:((l.length:Int)=(l.length:Int))=True:=eq_true rfl;unfold aNt kN;simp only;simp only[↓C2,Ih,Ii,simprocAttr,Aw];refine aGZ (l:=l) (n1:=n1) (n2:=n2) g (λz=>?_) l.length 0 _ _ O rfl rfl rfl;simp only[↓C2,Ij,reduceIte,Qr]
 all_goals exact Qj
def kM(p:Bs×Bs×List Rl×Bool×Bool):List D:=[I2 (p.1,p.2.1,p.2.2.2.1,p.2.2.1),I2 (p.1,p.2.1,p.2.2.2.2,p.2.2.1)]
def aB4(x y:Bs×Bs×List Rl×Bool×Bool)(e:kM x=kM y):x=y:=by
 simp only[kM,I2,Qo,D.agg.injEq,D.str.injEq,D.slice.injEq,true_and,and_true]at e;obtain⟨⟨e1,e2,e3,e4⟩,_,_,e5,_⟩:=e;exact Q3 e1 (Q3 e2 (Q3 (Ls e4) (Q3 e3 e5)))
def aTp:List D->Option D:=FX kM (λp=>p.2.2.1.length<=1000) (λ_=> .bool true)
def aKP{n p:Bs}{n1 n2:Bool}{l:List Rl}(h:l.length<=1000):aTp [.agg [.str n,.str p,.slice n1 [] (Aj l)],.agg [.str n,.str p,.slice n2 [] (Aj l)]]=some (.bool true):=Bl (mk:=kM) (a:=(n,p,l,n1,n2)) aB4 h
def aVs:Kq aTp 149:=by
 obtain⟨S,v,w⟩:=A7 (Aa aUY Ad);have b:=w 255 _ rfl;clear w;refine Bo v (Ai func149:Fn Qw 149 24 aOP [.t 4]) (λ_=>by simp[kM]) (λp g=>?_);obtain⟨n,p,l,n1,n2⟩:=p;simp only at g;have a:=aKm (n1:=n1) (n2:=n2) g;unfold aOP kM I2;simp only;simp only[↓C2,Is,simprocAttr,Ab b,a,QO,QS,Ag,Qo,Qt,Qp]
 all_goals exact Qj
def aZy:List D->Option D:=FX Nk (λp=>p.2.length<=1000) (λp=> .slice p.2.isEmpty [] (Aj p.2))
def aKl{nl:Bool}{l:List Rl}(h:l.length<=1000):aZy [.slice nl [] (Aj l)]=some (.slice l.isEmpty [] (Aj l)):=Bl (mk:=Nk) (a:=(nl,l)) Sn h
def aGY{S:Ic}{l:List Rl}{nl:Bool}{Q:Ex->St->Prop}(i:l.length<=1000)
  (w:∀z t,z.s 3= .slice l.isEmpty t (Aj l)->Q (.exit 0) z):
  ∀(f j:Nat)(t:Id) z g,l.length=j+f->z.s 0= .slice nl [] (Aj l)->z.s 3= .slice (l.take j).isEmpty t (Aj (l.take j))->Gw z.m z.c 191 (l.take j).isEmpty t->z.s 4= .int .i64 (j:Int)->A2 S [] Rh Q z g:=by
 intro f;induction f with
 |zero=>
  intro j t z g k r o hg n;refine Ae Rh.eq_1 ?_;have:¬((j:Int)<l.length):=O
  simp only[↓C2,Ih,Ii,simprocAttr,r,n,this,Aw];rw[QH O]at o;exact w _ t o
 |succ f ih=>
  intro j t z g k r o hg n;refine Ae Rh.eq_1 ?_;have y:j<l.length:=O
  have v:((j:Int)<l.length):=O
  have x:=nJ (j:=j);have hw:=wJ (j:=j) O;have d:(Aj l)[j]?=some (.agg [.str l[j].1,.int .u8 l[j].2]):=by simp[Aj,Qs y,iM]
  have na:Aj (l.take (j+1))=Aj (l.take j)++[.agg [.str l[j].1,.int .u8 l[j].2]]:=by
   have e:l.take (j+1)=l.take j++[l[j]]:=by rw[QX,Qs y];rfl
   rw[e];unfold Aj;rw[ZC];rfl
  have hn:(l.take j).isEmpty=true->Aj (l.take j)=[]:=λh=>by rw[Zg.1 h];rfl
  have p:(Aj (l.take j)).length<=1000:=by rw[Aw,Zc];omega
  have a:(l.take j).length<=1000:=Xg
  have b:=dW y;obtain⟨ja,u,q⟩:=z;simp only at r o hg n;simp only[↓C2,Iw,Ii,simprocAttr,r,o,n,v,x,Qv,d,Aw,and_false,QI,QL,and_false];refine AF.intro ⟨O,rfl,hg.grow O⟩ ?_;rw[BN hn];simp only[↓C2,Ij,simprocAttr,n,hw];refine ih (j+1) [q+4+6] _ _ O r ?_ ?_ rfl
  ·rw[b,na];rfl
  ·grind [Gw.new]
def aUX:Kq aZy 256:=by
 refine Bo (S:=λ_=>none) AI (Ai func256:Fn Qw 256 19 aNs [.t 2]) (λ_=>by simp[Nk]) (λp g=>?_);obtain⟨nl,l⟩:=p;simp only at g;unfold aNs Nk;simp only[↓C2,Ih,Qr];refine aGY (l:=l) (nl:=nl) g (λz t h=>?_) l.length 0 [] _ _ O rfl rfl (.inl rfl) rfl;simp only[↓C2,Ij,simprocAttr,h]
def aKO:List D->Option D:=FX (λk:Tk=>[I2 k]) (λk=>k.2.2.2.length<=1000) (λk=>I2 (DB k))
def aKN{k:Tk}(h:k.2.2.2.length<=1000):aKO [I2 k]=some (I2 (DB k)):=Bl (mk:=λk:Tk=>[I2 k]) (a:=k) cE h
def aVr:Kq aKO 150:=by
 obtain⟨S,v,w⟩:=A7 (Aa aUX Ad);have a:=w 256 _ rfl;clear w;refine Bo v (Ai func150:Fn Qw 150 11 aOO [.cell (some 3) 2]) (λ_=>U) (λk j=>?_);obtain⟨u,r,i,s⟩:=k;simp only at j;have f:=aKl (nl:=i) (l:=s) j;unfold aOO I2 DB;simp only;simp only[↓C2,Is,simprocAttr,Cd,DV,Ze,QO,QS,Ab a,f,Ag,Ao,Ap,Qy,QI,QL,Qx,QR,QW,Qo,Qt,Qp];refine Al ?_;simp only[↓C2,Is,simprocAttr,QO,QS,Ag,Ao,Ap,Qy,Qo,Qp,BA,A6]
 all_goals exact Qj
open Classical in
def uC{nl:Bool}{l:List Tk}(w:l.length<=1000000):oP [.agg [.slice nl [] (Ay l)]]=some (.slice (decide (l.length=0)) [] (l.map λk=> .str k.1)):=by
 have h:Fm (Ay l):=EV w;show(if _ then _ else _)=_;rw[if_pos h,By]
structure U3 (L M:List Tk):Prop where
 len:L.length=M.length
 ll:L.length<=1000
 ok:∀k∈L,iY k
 r:∀k∈L,k.2.2.2.length<=1000
 each:∀j,j<M.length->(AS L j).1=(AS M j).1∧(AS L j).2.1=(AS M j).2.1∧(AS L j).2.2.2=(AS M j).2.2.2∧A0 L (AS M j).1=true∧AS L (I3 L (AS M j).1)=AS L j
def kP(p:Bool×List Tk×Bool×List Tk):List D:=[.agg [.slice p.1 [] (Ay p.2.1)],.slice p.2.2.1 [] (Ay p.2.2.2)]
def aB7(x y:Bool×List Tk×Bool×List Tk)(e:kP x=kP y):x=y:=by
 simp only[kP,Qo,D.agg.injEq,D.slice.injEq,true_and,and_true]at e;obtain⟨⟨e1,e2⟩,e3,e4⟩:=e;exact Q3 e1 (Q3 (Hg e2) (Q3 e3 (Hg e4)))
def F67:List D->Option D:=FX kP (λp=>U3 p.2.1 p.2.2.2) (λ_=> .bool true)
def aS7{n1 n2:Bool}{L M:List Tk}(h:U3 L M):F67 [.agg [.slice n1 [] (Ay L)],.slice n2 [] (Ay M)]=some (.bool true):=Bl (mk:=kP) (a:=(n1,L,n2,M)) aB7 h
def rd3{m:Ig}{i:Id}{x y z:D}:Ah (m.put i 0 [x,y,z]) i 0 3=some [x,y,z]:=AX rfl
def aQB{S:Ic}{L M:List Tk}{n1 n2 n5:Bool}{Q:Ex->St->Prop}(d:S 35=some (Af F35))(a:S 150=some (Af aKO))(b:S 149=some (Af aTp))(hh:U3 L M)(ia:∀z,Q (.exit 0) z):
  ∀(f j:Nat)(z:St) g,M.length=j+f->1<=z.c->z.s 1= .slice n2 [] (Ay M)->z.s 2= .ptr [0] 0->z.s 5= .slice n5 [] (L.map λk=> .str k.1)->z.s 6= .int .i64 (j:Int)->Ah z.m [0] 0 1=some [.slice n1 [] (Ay L)]->A2 S [] V_ Q z g:=by
 have ka:=hh.len;have xa:=hh.ll;intro f;induction f with
 |zero=>
  intro j z g hf hc u q h5 h6 hm;refine Ae V_.eq_1 ?_;have:¬((j:Int)<M.length):=O
  simp only[↓C2,Ih,Ii,simprocAttr,u,h6,this,AH];exact ia _
 |succ f ih=>
  intro j z g hf hc u q h5 h6 hm;refine Ae V_.eq_1 ?_;have hj:j<M.length:=O
  have i:j<L.length:=O
  have v:((j:Int)<M.length):=O
  have o:((j:Int)<L.length):=O
  have qa:=nJ (j:=j);have hw:=wJ (j:=j) O;have w:(Ay M)[j]?=some (.agg [.str (AS M j).1,.str (AS M j).2.1,.slice (AS M j).2.2.1 [] (Aj (AS M j).2.2.2)]):=DY hj;have e:(L.map λk=>D.str k.1)[j]?=some (.str (AS L j).1):=by simp[AS,Qs i]
  have hr:=hh.r _ (Ln i);obtain⟨e1,e2,e3,e4,e5⟩:=hh.each j hj;have la:F35 [.agg [.slice n1 [] (Ay L)],.str (AS M j).1]=some (.tup [.agg [.str (AS L j).1,.str (AS L j).2.1,.slice (AS L j).2.2.1 [] (Aj (AS L j).2.2.2)],.bool true]):=by
   rw[aFb O hh.ok,if_pos e4,e5];rfl
  generalize AS M j=y at w la e1 e2 e3;generalize AS L j=x at e la hr e1 e2 e3;obtain⟨x1,x2,x3,x4⟩:=x;obtain⟨y1,y2,y3,y4⟩:=y;simp only at e1 e2 e3 w e la hr;subst e1 e2 e3;have l:aKO [.agg [.str x1,.str x2,.slice x3 [] (Aj x4)]]=some (.agg [.str x1,.str x2,.slice x4.isEmpty [] (Aj x4)]):=aKN (k:=(x1,x2,x3,x4)) hr;have h:=aKP (n:=x1) (p:=x2) (n1:=x4.isEmpty) (n2:=y3) hr;obtain⟨ja,t,fa⟩:=z;simp only at hc u q h5 h6 hm;simp only[↓C2,Iw,Ii,simprocAttr,u,q,h6,hm,v,qa,Qv,w,AH,Ab d,la,rd3,Qz,QB,QG,and_self,Qx,QR,QV];refine AF.intro (Ce ?_) ?_
  ·first|rfl|(simp only[Ec,Q5,Q6,Zl,QB,QG,Zb,BP,QO,QS,QA,QD,Q1,Q4,Lf,↓C2,reduceIte,Qn,q];simp[A4,d,Af];done)|(simp only[Ec,Q5,Q6,Zl,QB,QG,Zb,BP,QO,QS,QA,QD,Q1,Q4,Lf,↓C2,reduceIte,Qn,u,q,h5,h6];simp[A4,d,a,b,Af];trace_state;omega)
  simp only[↓C2,Iw,Ii,simprocAttr,u,h5,h6,qa,Qv,w,e,Ab a,l,Ab b,h,rd3,Qz,QI,QL,QR,QV];refine AF.intro (Ce ?_) ?_
  ·first|rfl|(simp only[Ec,Q5,Q6,Zl,QB,QG,Zb,BP,QO,QS,QA,QD,Q1,Q4,Lf,↓C2,reduceIte,Qn,u,q,h5,h6];simp[A4,d,a,b,Af];done)|(simp only[Ec,Q5,Q6,Zl,QB,QG,Zb,BP,QO,QS,QA,QD,Q1,Q4,Lf,↓C2,reduceIte,Qn,u,q,h5,h6];simp[A4,d,a,b,Af];trace_state;omega)
  simp only[↓C2,Ih,IM,simprocAttr,h6,hw];refine ih (j+1) _ _ O Xb u q h5 rfl ?_;have ma:([0]:Id)≠[fa+4+10]:=U
  show Ah ((t.put [fa+4+10] 0 _).put [fa+4+10] 0 _) [0] 0 1=_;rw[AT ma,AT ma];exact hm
def aZW:Kq F67 67:=by
 obtain⟨S,s,w⟩:=A7 (Aa aLv (Aa aUs (Aa aVr (Aa aVs Ad))));have c:=w 129 _ rfl;have d:=w 35 _ rfl;have a:=w 150 _ rfl;have b:=w 149 _ rfl;clear w;refine Bo s (Ai func67:Fn Qw 67 56 aYb [.t 4]) (λ_=>by simp[kP]) (λp g=>?_);obtain⟨n1,L,n2,M⟩:=p;simp only at g;have u:=g.len;have j:=g.ll;have v:=uC (nl:=n1) (l:=L) O;have h:((L.length:Int)=(M.length:Int))=True:=eq_true O;have y:(L.map λk=>D.str k.1).map D.un=L.map λk=> .str k.1:=by rw[Zn];rfl
 unfold aYb kP;simp only;simp only[↓C2,Iw,Ii,simprocAttr,AH,Zj,Ab c,v,h,Ag,Ao,Ap,Qz,QE,QB,and_self,Qy];refine aQB (L:=L) (M:=M) (n1:=n1) (n2:=n2) d a b g (λz=>?_) M.length 0 _ _ O Xb rfl rfl rfl rfl rfl;simp only[↓C2,Ij,reduceIte,Qr]
 all_goals exact Qj
theorem GZ:∀a:Bs,Op.bytesLess a a=false
 |[]=>rfl
 |x::r=>by simp[Op.bytesLess,GZ r]
theorem Gc:∀{a b:Bs},a≠b->Op.bytesLess a b=!Op.bytesLess b a
 |[],[],h=>absurd rfl h
 |[],y::s,_=>rfl
 |x::r,[],_=>rfl
 |x::r,y::s,h=>by
  simp only[Op.bytesLess];by_cases c:x=y
  ·simp_all [Gc]
  ·grind
theorem Hy:∀{a b c:Bs},Op.bytesLess a b=true->Op.bytesLess b c=true->Op.bytesLess a c=true
 |a,b,[],h1,h2=>by simp[Op.bytesLess]at h2
 |a,[],z::t,h1,h2=>by cases a<;>simp[Op.bytesLess]at h1
 |[],y::s,z::t,h1,h2=>rfl
 |x::r,y::s,z::t,h1,h2=>by
  simp only[Op.bytesLess,Bool.or_eq_true,Q7,decide_eq_true_eq,beq_iff_eq]at h1 h2 ⊢;rcases h1 with h1|⟨rfl,h1⟩
  ·grind
  ·rcases h2 with h2|⟨rfl,h2⟩
   ·left;exact h2
   ·right;exact⟨rfl,Hy h1 h2⟩
def GN(l:List Mt):Prop:=∀i j,i<j->j<l.length->Op.bytesLess (l.getD i m0t).1 (l.getD j m0t).1=true
def RQ{a b:Bs}:decide (Hv a b<0)=Op.bytesLess a b:=by
 grind [Hv]
def aCu{l:List Mt}{m:Mt}(f:∀i,i<l.length->(l.getD i m0t).1≠m.1):∀j,j<=l.length->kR kS m0t l m j=UG l m.1 j
 |0,_=>rfl
 |j+1,hj=>by
  have ih:=aCu f j O;have d:=Gc (f j O);have v:kS m (l.getD j m0t)=Op.bytesLess m.1 (l.getD j m0t).1:=RQ;unfold kR UG;rw[v,show AZ l j=l.getD j m0t from rfl,d];cases Op.bytesLess m.1 (l.getD j m0t).1
  ·simp
  ·simpa using ih
theorem UT{l:List Mt}{p:Bs}(h:¬0<=Bh l p):∀i,i<l.length->(l.getD i m0t).1≠p:=by
 have u:=F8 (l.map λm=>decide (m.1=p));have q:decide (0<=Bc (l.map λm=>decide (m.1=p)))=false:=decide_eq_false h;rw[q]at u;intro i hi e;have o:=ZK.1 u.symm (decide ((l.getD i m0t).1=p)) (Zd.2 ⟨l[i],QQ hi,by simp[Zl,hi]⟩);exact o (decide_eq_true e)
theorem O6{l:List Mt}{m:Mt}(h:GN l):FD l m=Gf l m:=by
 unfold FD Gf;split
 ·rfl
 split
 ·rfl
 rename_i k;split
 ·rfl
 split
 ·rfl
 have j:∀i,i+1<l.length->kS (l.getD (i+1) m0t) (l.getD i m0t)=false:=λi hi=>by
  have u:=h i (i+1) O hi;unfold kS;rw[RQ];have c:(l.getD (i+1) m0t).1≠(l.getD i m0t).1:=λe=>by rw[e,GZ]at u;cases u
  rw[Gc c,u];rfl
 have hi:=UI kS m0t l m j l.length 1 (QZ _) O;rw[hi,aCu (UT k) l.length (QZ _)];split
 ·simp_all
 ·rfl
end Go.Vd
end
